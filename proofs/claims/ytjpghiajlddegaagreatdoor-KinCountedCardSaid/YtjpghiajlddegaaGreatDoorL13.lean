/- Part 13 of the proof: a program logic, contracts, a theorem on goroutines. -/
import Derived.Test.YtjpghiajlddegaaGreatDoorL12
set_option maxRecDepth 100000
set_option linter.all false
namespace Go.L
open Go Go.Conc Go.Proofs
variable {hd:List bZ} {cs:List bF} {l:List Value} {xs ys:List ByteArray} {b i k:Nat} {fs:List gV} {K:aZ} {x:aF} {vp vc vh:Value} {n r:Int}
def hqw:ByteArray:=bs [72,81,87]
def kindOf(r:Int):Int:=if 97≤r∧r≤122 then 1 else if (65≤r∧r≤90)∧N4 hqw (UInt8.ofNat (IntKind.u8.wrap r).toNat) <0 then 2 else 0
theorem aDP:EF zT 291 Extern.BytealgIndexByte.indexByte:=⟨Tryz.f291,Tryz.func291,by kernel_rfl,by kernel_rfl,by kernel_rfl,by kernel_rfl⟩
theorem Xn{a:ByteArray}{b:Int}{ro:Nat→Option Obj}:dz zT 283 [.string a,.int .u8 b] ro (zI (N4 a (b).toNat.toUInt8)):=by
 refine bA au [] [] bn<|zD 8<|jib (a:=a) (b:=b) aDP<|zD 3<|aE q0 (zI (N4 a (b).toNat.toUInt8)) [] [] [] (Sub.refl _) ⟨_,_,rfl,rfl,rfl,rfl⟩
theorem Xo{a:ByteArray}{b:Int}{ro:Nat→Option Obj}:dz zT 266 [.string a,.int .u8 b] ro (zI (N4 a (b).toNat.toUInt8)):=by
 refine bA au [] [] bn<|zD 8<|jp (vs:=[.string a,.int .u8 b]) [] [] (fun aA hs hZ=>Xn)<|zD 3<|aE q0 (zI (N4 a (b).toNat.toUInt8)) [] [] [] (Sub.refl _) ⟨_,_,rfl,rfl,rfl,rfl⟩
theorem ap4{a:ByteArray}{ro:Nat→Option Obj}(hr:0≤r∧r <128):dz zT 242 [.string a,.int .i32 r] ro (zI (N4 a (IntKind.u8.wrap r).toNat.toUInt8)):=by
 refine bA au [] [] bn<|zD 10<|jj 3 [(0,.string a),(1,.int .i32 r),(4,zI 0),(166,.bool ((decide (0≤r))&&(decide (r <128))))] (fun gD=>?_) (fun hj=>?_)
 rotate_left
 refine js 163 (decide (0≤r)) (fun h1=>?_) (fun h1=>?_)
 ·
  have fS:=h1
  replace fS:=of_decide_eq_true fS
  refine zD 3<|jw 166 (.bool ((decide (0≤r))&&(decide (r <128)))) (w:= .bool (decide (r <128))) (by rw[h1]<;>rfl) ?_
  exact hj _ (by kernel_rfl) (by kernel_rfl)
 ·
  have fS:=h1
  replace fS:=of_decide_eq_false fS
  refine zD 3<|jw 166 (.bool ((decide (0≤r))&&(decide (r <128)))) (w:= .bool false) (by rw[h1]<;>rfl) ?_
  exact hj _ (by kernel_rfl) (by kernel_rfl)
 refine zD 2<|js 160 ((decide (0≤r))&&(decide (r <128))) (fun h2=>?_) (fun h2=>?_)
 ·
  try simp only[zB] at h2
  refine zD 6<|jp (vs:=[.string a,.int .u8 (IntKind.u8.wrap r)]) [] [] (fun aA hs hZ=>Xo)<|zD 3<|aE q0 (zI (N4 a ((IntKind.u8.wrap r)).toNat.toUInt8)) [] [] [] (Sub.refl _) ⟨_,_,rfl,rfl,rfl,rfl⟩
 try simp only[zB] at h2
 exfalso;omega
theorem aj1{a:ByteArray}{ro:Nat→Option Obj}(hr:0≤r∧r <128):dz zT 221 [.string a,.int .i32 r] ro (.bool (decide (N4 a (IntKind.u8.wrap r).toNat.toUInt8≥0))):=by
 refine bA au [] [] bn<|zD 8<|jp (vs:=[.string a,.int .i32 r]) [] [] (fun aA hs hZ=>ap4 (by omega))<|zD 4<|aE q0 (.bool (decide ((N4 a (IntKind.u8.wrap r).toNat.toUInt8)≥0))) [] [] [] (Sub.refl _) ⟨_,_,rfl,rfl,rfl,rfl⟩
theorem alN{ro:Nat→Option Obj}:dz zT 199 [.int .i32 r] ro (zI (kindOf r)):=by
 refine bA au [] [] bn<|zD 11<|jj 3 [(0,.int .i32 r),(2,zI 0),(9,.bool ((decide (r≥97))&&(decide (r≤122))))] (fun gD=>?_) (fun hj=>?_)
 rotate_left
 refine js 6 (decide (r≥97)) (fun h1=>?_) (fun h1=>?_)
 ·
  have fS:=h1
  replace fS:=of_decide_eq_true fS
  refine zD 3<|jw 9 (.bool ((decide (r≥97))&&(decide (r≤122)))) (w:= .bool (decide (r≤122))) (by rw[h1]<;>rfl) ?_
  exact hj _ (by kernel_rfl) (by kernel_rfl)
 ·
  have fS:=h1
  replace fS:=of_decide_eq_false fS
  refine zD 3<|jw 9 (.bool ((decide (r≥97))&&(decide (r≤122)))) (w:= .bool false) (by rw[h1]<;>rfl) ?_
  exact hj _ (by kernel_rfl) (by kernel_rfl)
 refine zD 2<|js 3 ((decide (r≥97))&&(decide (r≤122))) (fun h2=>?_) (fun h2=>?_)
 ·
  try simp only[zB] at h2
  refine zD 6<|aE q0 (zI 1) [] [] [] (Sub.refl _) ⟨_,_,rfl,rfl,by simp only[kindOf,hqw];congr 1;(try simp at*);(repeat' split)<;>omega,rfl⟩
 try simp only[zB] at h2
 refine zD 6<|jj 3 [(0,.int .i32 r),(2,zI 0),(16,.bool ((decide (r≥65))&&(decide (r≤90))))] (fun gD=>?_) (fun hj=>?_)
 rotate_left
 refine js 13 (decide (r≥65)) (fun h3=>?_) (fun h3=>?_)
 ·
  have sC:=h3
  replace sC:=of_decide_eq_true sC
  refine zD 3<|jw 16 (.bool ((decide (r≥65))&&(decide (r≤90)))) (w:= .bool (decide (r≤90))) (by rw[h3]<;>rfl) ?_
  exact hj _ (by kernel_rfl) (by kernel_rfl)
 ·
  have sC:=h3
  replace sC:=of_decide_eq_false sC
  refine zD 3<|jw 16 (.bool ((decide (r≥65))&&(decide (r≤90)))) (w:= .bool false) (by rw[h3]<;>rfl) ?_
  exact hj _ (by kernel_rfl) (by kernel_rfl)
 refine zD 1<|jj 4 [(2,zI 0),(21,.bool (((decide (r≥65))&&(decide (r≤90)))&&(!(decide (N4 (bs [72,81,87]) (IntKind.u8.wrap r).toNat.toUInt8≥0)))))] (fun gD=>?_) (fun hj=>?_)
 rotate_left
 refine js 17 ((decide (r≥65))&&(decide (r≤90))) (fun h4=>?_) (fun h4=>?_)
 ·
  have xC:=h4
  try simp only[zB] at xC
  refine zD 1<|jp (vs:=[.string (bs [72,81,87]),.int .i32 r]) [] [] (fun aA hs hZ=>aj1 (by omega))<|zD 2<|jw 21 (.bool (((decide (r≥65))&&(decide (r≤90)))&&(!(decide (N4 (bs [72,81,87]) (IntKind.u8.wrap r).toNat.toUInt8≥0))))) (w:= .bool (!(decide (N4 (bs [72,81,87]) (IntKind.u8.wrap r).toNat.toUInt8≥0)))) (by rw[h4]<;>rfl) ?_
  exact hj _ (by kernel_rfl) (by kernel_rfl)
 ·
  have xC:=h4
  try simp only[zB] at xC
  refine zD 4<|jw 21 (.bool (((decide (r≥65))&&(decide (r≤90)))&&(!(decide (N4 (bs [72,81,87]) (IntKind.u8.wrap r).toNat.toUInt8≥0))))) (w:= .bool false) (by rw[h4]<;>rfl) ?_
  exact hj _ (by kernel_rfl) (by kernel_rfl)
 refine zD 2<|js 10 (((decide (r≥65))&&(decide (r≤90)))&&(!(decide (N4 (bs [72,81,87]) (IntKind.u8.wrap r).toNat.toUInt8≥0)))) (fun h5=>?_) (fun h5=>?_)
 ·
  try simp only[zB] at h5
  refine zD 6<|aE q0 (zI 2) [] [] [] (Sub.refl _) ⟨_,_,rfl,rfl,by simp only[kindOf,hqw];congr 1;(try simp at*);(repeat' split)<;>omega,rfl⟩
 try simp only[zB] at h5
 refine zD 7<|aE q0 (zI 0) [] [] [] (Sub.refl _) ⟨_,_,rfl,rfl,by simp only[kindOf,hqw];congr 1;(try simp at*);(repeat' split)<;>omega,rfl⟩
theorem abS:((List.range 256).all fun n=> !Fu (UInt8.ofNat n)||decide (kindOf (n:Int)=1))=true:=by kernel_rfl
theorem abR:((List.range 256).all fun n=> !E5 (UInt8.ofNat n)||decide (kindOf (n:Int)=2))=true:=by kernel_rfl
def Wa(w:ByteArray)(k:Int):Prop:=∀b∈w.data.toList,b.toNat <128∧kindOf (b.toNat:Int)=k
theorem M7{w:ByteArray}(h:Script w):∃k:Int,(k=1∨k=2)∧Wa w k:=by
 have hb:∀b:UInt8,UInt8.ofNat b.toNat=b:=fun b=>by simp
 rcases h with h|h
 ·refine⟨1,.inl rfl,fun b lU=>?_⟩
  have h1:=h b lU
  have h2:=List.all_eq_true.1 abS b.toNat (List.mem_range.2 b.toNat_lt)
  rw[hb,h1] at h2
  simp only[Fu,Bool.and_eq_true,Nat.ble_eq] at h1
  exact⟨by omega,by simpa using h2⟩
 refine⟨2,.inr rfl,fun b lU=>?_⟩
 have h1:=h b lU
 have h2:=List.all_eq_true.1 abR b.toNat (List.mem_range.2 b.toNat_lt)
 rw[hb,h1] at h2
 simp only[E5,Bool.and_eq_true,Nat.ble_eq] at h1
 exact⟨by omega,by simpa using h2⟩
theorem aiH{w:ByteArray}{k:Int}{ro:Nat→Option Obj}(hs:1≤w.size∧w.size≤6)(hk:k=1∨k=2)(hK:Wa w k):dz zT 158 [.string w] ro (zI 0):=by
 refine bA au [] [] bn<|zD 11<|zJ 9 ((w.size:Int)=0) (fun h1=>?_) fun h1=>?_
 ·
  exfalso;omega
 refine zD 9<|zJ 12 ((w.size:Int)>6) (fun h2=>?_) fun h2=>?_
 ·
  exfalso;omega
 refine zD 10<|jn fun r14=>zD 2<|ez [1,1,1,1,0,1,0,0] [] (fun(zz:Nat×Int)=>[(3,zI zz.2),(14,zP r14)]) (fun(zz:Nat×Int)=>[.b r14 (.stringIter w zz.1)]) (fun(zz:Nat×Int)=>zz.1≤w.data.toList.length∧(zz.2=0∨zz.2=k)) (fun(zz:Nat×Int)=>w.data.toList.length-zz.1) (⟨0,0⟩) ⟨by omega,.inl rfl⟩ [0] ?_
 rintro⟨p,sc⟩ hI K1 bM rest
 dsimp only at hI
 refine zD 2 ?_
 cases Ok:w.data.toList[p]? with
 |some yS=>
  refine jnA r14 0 Ok (hK _ (List.mem_of_getElem? Ok)).1<|zD 7 ?_
  have Vk:=(hK _ (List.mem_of_getElem? Ok)).2
  refine zD 7<|jp (vs:=[.int .i32 (yS.toNat:Int)]) [] [] (fun aA hs hZ=>alN)<|zD 8<|zJ 21 (sc=0) (fun h3=>?_) fun h3=>?_
  ·
   refine zD 10<|jj 4 [(3,zI (kindOf (yS.toNat:Int))),(14,zP r14),(29,.bool ((decide ((kindOf (yS.toNat:Int))=0))||(!decide ((kindOf (yS.toNat:Int))=(kindOf (yS.toNat:Int))))))] (fun gD=>?_) (fun hj=>?_)
   rotate_left
   refine js 25 (decide ((kindOf (yS.toNat:Int))=0)) (fun h4=>?_) (fun h4=>?_)
   ·
    have xC:=h4
    replace xC:=of_decide_eq_true xC
    refine zD 4<|jw 29 (.bool ((decide ((kindOf (yS.toNat:Int))=0))||(!decide ((kindOf (yS.toNat:Int))=(kindOf (yS.toNat:Int)))))) (w:= .bool true) (by rw[h4]<;>rfl) ?_
    exact hj _ (by kernel_rfl) (by kernel_rfl)
   ·
    have xC:=h4
    replace xC:=of_decide_eq_false xC
    refine zD 4<|jw 29 (.bool ((decide ((kindOf (yS.toNat:Int))=0))||(!decide ((kindOf (yS.toNat:Int))=(kindOf (yS.toNat:Int)))))) (w:= .bool (!decide ((kindOf (yS.toNat:Int))=(kindOf (yS.toNat:Int))))) (by rw[h4]<;>rfl) ?_
    exact hj _ (by kernel_rfl) (by kernel_rfl)
   refine zD 1<|js 29 ((decide ((kindOf (yS.toNat:Int))=0))||(!decide ((kindOf (yS.toNat:Int))=(kindOf (yS.toNat:Int))))) (fun h5=>?_) (fun h5=>?_)
   ·
    try simp only[zB] at h5
    exfalso;omega
   try simp only[zB] at h5
   refine zD 2<|bO bM (⟨p+1,(kindOf (yS.toNat:Int))⟩) ⟨by have:=(List.getElem?_eq_some_iff.1 Ok).1;dsimp only;omega,by dsimp only;omega⟩ (by have:=(List.getElem?_eq_some_iff.1 Ok).1;dsimp only;omega) [0] (Sub.refl _)
  refine zD 7<|jj 4 [(3,zI sc),(14,zP r14),(29,.bool ((decide ((kindOf (yS.toNat:Int))=0))||(!decide ((kindOf (yS.toNat:Int))=sc))))] (fun gD=>?_) (fun hj=>?_)
  rotate_left
  refine js 25 (decide ((kindOf (yS.toNat:Int))=0)) (fun h6=>?_) (fun h6=>?_)
  ·
   have OQ:=h6
   replace OQ:=of_decide_eq_true OQ
   refine zD 4<|jw 29 (.bool ((decide ((kindOf (yS.toNat:Int))=0))||(!decide ((kindOf (yS.toNat:Int))=sc)))) (w:= .bool true) (by rw[h6]<;>rfl) ?_
   exact hj _ (by kernel_rfl) (by kernel_rfl)
  ·
   have OQ:=h6
   replace OQ:=of_decide_eq_false OQ
   refine zD 4<|jw 29 (.bool ((decide ((kindOf (yS.toNat:Int))=0))||(!decide ((kindOf (yS.toNat:Int))=sc)))) (w:= .bool (!decide ((kindOf (yS.toNat:Int))=sc))) (by rw[h6]<;>rfl) ?_
   exact hj _ (by kernel_rfl) (by kernel_rfl)
  refine zD 1<|js 29 ((decide ((kindOf (yS.toNat:Int))=0))||(!decide ((kindOf (yS.toNat:Int))=sc))) (fun h7=>?_) (fun h7=>?_)
  ·
   try simp only[zB] at h7
   exfalso;omega
  try simp only[zB] at h7
  refine zD 2<|bO bM (⟨p+1,sc⟩) ⟨by have:=(List.getElem?_eq_some_iff.1 Ok).1;dsimp only;omega,by dsimp only;omega⟩ (by have:=(List.getElem?_eq_some_iff.1 Ok).1;dsimp only;omega) [0] (Sub.refl _)
 |none=>
  refine jnZ r14 0 Ok<|zD 10<|aE q0 (zI 0) [] [] [] (Sub.refl _) ⟨_,_,rfl,rfl,rfl,rfl⟩
def lY:=(mI Tryz.typeInfo3 Tryz.underlying3 rfl rfl rfl rfl rfl rfl:TF zT 3 _ 1 8 _ false)
theorem afi(a b c d:Int)(dep:Nat):YH zT (dep+2) 70 (.agg ⟨[zI a,zI b]⟩) (.agg ⟨[zI c,zI d]⟩) (a==c&&(b==d&&true)):=
 tR (mI Tryz.typeInfo70 Tryz.underlying70 rfl rfl rfl rfl rfl rfl) Tryz.stoodInHeld70 (.cons (by decide) (jO lY rfl) (jO lY rfl) (nF lY _ _) (.cons (by decide) (jO lY rfl) (jO lY rfl) (nF lY _ _) .nil))
theorem vK(a b c d:Int):EqV zT 70 (.agg ⟨[zI a,zI b]⟩) (.agg ⟨[zI c,zI d]⟩) (a==c&&(b==d&&true)):=Lf (afi a b c d _)
theorem as1(a b c d e f:Int):EqV zT 144 (.agg ⟨[zI a,zI b,zI c]⟩) (.agg ⟨[zI d,zI e,zI f]⟩) (a==d&&(b==e&&(c==f&&true)&&true)):=
 Lf (tR (mI Tryz.typeInfo144 Tryz.underlying144 rfl rfl rfl rfl rfl rfl) Tryz.stoodInHeld144 (.cons (by decide) (jO lY rfl) (jO lY rfl) (nF lY _ _) (.cons (by decide) (E1 (mI Tryz.typeInfo70 Tryz.underlying70 rfl rfl rfl rfl rfl rfl) rfl) (E1 (mI Tryz.typeInfo70 Tryz.underlying70 rfl rfl rfl rfl rfl rfl) rfl) (afi _ _ _ _ _) .nil)))
theorem Fa:nH zT 70:=Tryz.eqGuardType70
theorem axL:nH zT 144:=Tryz.eqGuardType144
def Bd(n l:Int)(y:ah):Bool:=n==y.n&&(l==y.l&&true)
theorem Rj{w:ByteArray}{ro:Nat→Option Obj}(hs:1≤w.size∧w.size≤6)(h:Script w):dz zT 158 [.string w] ro (zI 0):=by
 obtain⟨k,h1,h2⟩:=M7 h
 exact aiH hs h1 h2
theorem zn{ro:Nat→Option Obj}:dz zT 66 [zI 0] ro (.tuple ⟨[]⟩):=by
 refine bA au [] [] bn<|zD 7<|aE q0 (.tuple ⟨[]⟩) [] [] [] (Sub.refl _) ⟨_,_,rfl,rfl,rfl,rfl⟩
theorem UY{ro:Nat→Option Obj}:dz zT 65 [.agg ⟨[.string x.name,zI x.st,zI x.no,zI x.head,.bool x.bold]⟩] ro (.agg ⟨[zI x.st,zI x.no,zI 0]⟩):=by
 refine bA au [] [] bn<|zD 2<|jn fun b1=>jn fun b2=>jd 12 [1,1,0]<|aE q0 (.agg ⟨[zI x.st,zI x.no,zI 0]⟩) [0] [] [] (Sub.refl _) ⟨_,_,rfl,rfl,rfl,rfl⟩
theorem acb{v:Value}{ps:List ah}{l:Int}{ro:Nat→Option Obj}(hp:bI ro v 2 cI ps)(hn:ps.length≤1000):dz zT 200 [v,.agg ⟨[zI n,zI l]⟩] ro (zI (cQ (Bd n l) ps 0)):=by
 obtain⟨PS,qpb,qpo,It,rfl,qpk,WS,WR⟩:=hp
 refine bA au [] [] bn<|zD 2<|jn fun b3=>zD 10<|ez [1,0,1,0,0] [] (fun(zz:Nat)=>[(0,.slice PS ps.length It),(3,zP b3),(7,zI (ps.length:Int)),(8,zI (zz:Int))]) (fun(zz:Nat)=>[.b b3 (.cells ⟨[zI n,zI l]⟩ 70 (0,0))]) (fun(zz:Nat)=>zz≤ps.length∧cQ (Bd n l) ps 0=cQ (Bd n l) (ps.drop zz) zz) (fun(zz:Nat)=>ps.length-zz) 0 ⟨by omega,rfl⟩ [0] ?_
 rintro k hI K1 bM rest
 refine zD 5<|zJ 9 ((k:Int) <(ps.length:Int)) (fun h1=>?_) fun h1=>?_
 ·
  refine jd 14 [0] ?_
  obtain⟨fC,eA⟩:=zG ps k
  refine ij It 2 WS eA<|jl 0 (WR _ _ eA)<|jeq Fa (vK n l fC.n fC.l)<|zD 1<|js 16 (n==fC.n&&(l==fC.l&&true)) (fun h2=>?_) (fun h2=>?_)
  ·
   refine zD 7<|aE q0 (zI (k:Int)) [] [] [] (Sub.refl _) ⟨_,_,rfl,rfl,by rw[hI.2,jm eA,show Bd n l fC=true from (by assumption)];rfl,rfl⟩
  refine zD 3<|ja ((k:Int)+1) (by omega)<|zD 2<|bO bM (k+1) ⟨by omega,by rw[hI.2,jm eA,show Bd n l fC=false from (by assumption)];rfl⟩ (by omega) [0] (Sub.refl _)
 refine zD 7<|aE q0 (zI (-1)) [] [] [] (Sub.refl _) ⟨_,_,rfl,rfl,by rw[hI.2,p8 (by omega)],rfl⟩
theorem IN{v:Value}{ps:List ah}{l:Int}{ro:Nat→Option Obj}(hp:bI ro v 2 cI ps)(hn:ps.length≤1000):dz zT 159 [v,.agg ⟨[zI n,zI l]⟩] ro (.bool (decide (cQ (Bd n l) ps 0≥0))):=by
 obtain⟨PS,qpb,qpo,It,rfl,qpk,WS,WR⟩:=hp
 refine bA au [] [] bn<|zD 2<|jn fun b3=>jd 6 [0]<|jp (vs:=[.slice PS ps.length It,.agg ⟨[zI n,zI l]⟩]) [] [] (fun aA hs hZ=>acb ((show bI _ _ _ _ _ from ⟨PS,qpb,qpo,It,rfl,qpk,WS,WR⟩).up hs) (by first|omega| (simp only[List.length_set,List.length_append,List.length_cons,List.length_nil];omega))) ?_
 refine zD 4<|aE q0 (.bool (decide ((cQ (Bd n l) ps 0)≥0))) [] [] [] (Sub.refl _) ⟨_,_,rfl,rfl,rfl,rfl⟩
theorem Vn{i:Int}(h:ny hd i): -1≤i∧i <hd.length:=by
 rcases h with h| ⟨h0,x,h1,_⟩
 ·omega
 have:=(List.getElem?_eq_some_iff.1 h1).1
 omega
theorem OE{hv:List bp}{i:Int}{x:bp}(h:dD dq hv hd)(hi:ny hd i)(h0:i≥0)(hx:hv[i.toNat]?=some x):0≤x.cls:=by
 rcases hi with hi| ⟨_,y,h1,h2⟩
 ·omega
 obtain⟨z,h3,h4⟩:=h.get hx
 rw[h1] at h3;cases h3
 rw[h4.2.1];exact h2
theorem Iw{S:List (List ah)}{l:List ah}(h:akY S hd x)(hl:S[x.st.toNat]?=some l):cQ (Bd x.no 0) l 0≥0:=by
 obtain⟨l',h1,h2⟩:=h.2
 rw[h1] at hl;cases hl
 have key:∀(l:List ah) (k:Nat),(⟨x.no,0⟩:ah)∈l→cQ (Bd x.no 0) l k≥0:=by
  intro l
  induction l with
  |nil=>intro k h;cases h
  |cons y l ih=>
   intro k h
   simp only[cQ]
   cases hx:Bd x.no 0 y with
   |true=>simp
   |false=>
    simp only[cond_false]
    rcases List.mem_cons.1 h with rfl|h
    ·simp[Bd] at hx
    exact ih _ h
 exact key _ 0 h2
theorem ab5{ro:Nat→Option Obj}(hK:gh ro l K)(hO:n9 K)(hx:akY K.str K.hd x):dz zT 114 [.agg ⟨l⟩,.agg ⟨[.string x.name,zI x.st,zI x.no,zI x.head,.bool x.bold]⟩,.bool true] ro (zI 0):=by
 obtain⟨vS,vT,vc,vh,vr,vb,va,vf,fa,fc,hv,rfl,hS,hT,rC,oe,hr,hb,ha,hf⟩:=hK
 obtain⟨iL,hs,fF⟩:=id hS
 obtain⟨jB,ht,fu⟩:=id hT
 obtain⟨hc,hh,F7⟩:=id rC
 obtain⟨mB,Uh,Uf,lP,rfl,Ug,Nh,Ng⟩:=hs
 obtain⟨eT,AM,AJ,dY,rfl,AK,sS,sR⟩:=ht
 obtain⟨eC,AO,AN,ek,rfl,C5,yI,yH⟩:=hc
 obtain⟨dJ,uK,uJ,dr,rfl,wZ,qB,qA⟩:=hh
 obtain⟨lR,JX,JW,lQ,rfl,Ni,Is,Ir⟩:=hr
 obtain⟨pF,WV,WT,oZ,rfl,WU,Uj,Ui⟩:=hb
 obtain⟨pd,Um,Uk,oN,rfl,Ul,Q6,Q5⟩:=ha
 obtain⟨nO,Hu,Ht,mf,rfl,Mh,Bb,Ba⟩:=hf
 have Cr:=hO.rules
 have qt:=hO.before.1
 have Ox:=hO.after.1
 have Ow:=hO.facts.1
 have Ov:=hO.ways.1
 have HG:=fF.len
 have D6:=fu.len
 have XL:=hO.r8.two
 have hl9:=hO.eE.nh
 have PQ:∀(i:Nat) (p:ei),([]:List ei)[i]?=some p→cg ⟨ro,[]⟩ 0 (0+i*6) 6 (n5 p):=fun _ _ h=>oG h
 have hNm:=hx.1.1
 have hNs:=hNm.1
 have hHd:=hx.1.2.1
 have hHl:=Vn hHd
 have hSt:=hx.1.2.2.1
 have hBd:=hx.1.2.2.2
 have hlen:=oe.len
 refine bA au [] [] bn<|zD 2<|jn fun b3=>jn fun b4=>jd 7 [0]<|jp (vs:=[.string x.name]) [] [] (fun aA hs hZ=>(Rj (by omega) hNm.2))<|jd 27 [1,0,1]<|ja ((hv.length:Int)-1) (by omega)<|jp (vs:=[zI x.head,zI (-1),zI ((hv.length:Int)-1)]) [] [] (fun aA hs hZ=>fR)<|zD 3<|js 19 (!(iH x.head (-1) ((hv.length:Int)-1))) (fun h1=>?_) (fun h1=>?_)
 ·
  try simp only[zB] at h1
  exfalso;simp only[iH,Bool.and_eq_false_iff,decide_eq_false_iff_not] at h1;omega
 try simp only[zB] at h1
 refine jd 7 [0]<|js 33 (decide (x.head≥0)) (fun h2=>?_) (fun h2=>?_)
 ·
  have kF:=h2
  replace kF:=of_decide_eq_true kF
  refine jd 5 [1,0] ?_
  obtain⟨DJ,xj⟩:=zG hv (x.head.toNat)
  refine Mj x.head dr 4 qB xj (by omega)<|zD 1<|jl 1 (qA _ _ xj)<|zD 4<|zJ 29 (DJ.cls=(-1)) (fun h3=>?_) fun h3=>?_
  ·
   exfalso;have:=OE oe hHd (by omega) xj;omega
  refine jd 8 [0]<|ja ((iL.length:Int)-1) (by omega)<|jp (vs:=[zI x.st,zI 0,zI ((iL.length:Int)-1)]) [] [] (fun aA hs hZ=>fR)<|zD 3<|js 44 (!(iH x.st 0 ((iL.length:Int)-1))) (fun h4=>?_) (fun h4=>?_)
  ·
   try simp only[zB] at h4
   exfalso;simp only[iH,Bool.and_eq_false_iff,decide_eq_false_iff_not] at h4;omega
  try simp only[zB] at h4
  refine jd 7 [0] ?_
  obtain⟨x57,Db⟩:=zG iL (x.st.toNat)
  refine Mj x.st lP 1 Nh Db (by omega) ?_
  obtain⟨l58,ads,h58⟩:=fF.get Db
  obtain aOk:=hO.r8.len _ (List.mem_of_getElem? ads)
  obtain⟨aaH,aoQ,aoM,aaG,rfl,aoO,aoP,aoN⟩:=h58
  refine jl 0 (Ng _ _ Db)<|jd 1 [0]<|jp (vs:=[.agg ⟨[.string x.name,zI x.st,zI x.no,zI x.head,.bool x.bold]⟩]) [] [] (fun aA hs hZ=>(UY (x:=(⟨x.name,x.st,x.no,x.head,x.bold⟩:aF))))<|zD 1<|jp (vs:=[.slice aaH l58.length aaG,.agg ⟨[zI x.no,zI 0]⟩]) [] [] (fun aA hs hZ=>IN ((show bI _ _ _ _ _ from ⟨aaH,aoQ,aoM,aaG,rfl,aoO,aoP,aoN⟩).up hs) (by first|omega| (simp only[List.length_set,List.length_append,List.length_cons,List.length_nil];omega))) ?_
  refine zD 4<|js 44 (!(decide (cQ (Bd x.no 0) l58 0≥0))) (fun h5=>?_) (fun h5=>?_)
  ·
   try simp only[zB] at h5
   exfalso;have:=Iw hx ads;omega
  try simp only[zB] at h5
  refine jd 20 [0]<|js 74 x.bold (fun h6=>?_) (fun h6=>?_)
  ·
   exfalso;rw[hBd] at h6;cases h6
  refine zD 7<|aE q0 (zI 0) [] [] [] (Sub.refl _) ⟨_,_,rfl,rfl,rfl,rfl⟩
 have kF:=h2
 replace kF:=of_decide_eq_false kF
 refine jd 20 [0]<|ja ((iL.length:Int)-1) (by omega)<|jp (vs:=[zI x.st,zI 0,zI ((iL.length:Int)-1)]) [] [] (fun aA hs hZ=>fR)<|zD 3<|js 44 (!(iH x.st 0 ((iL.length:Int)-1))) (fun h7=>?_) (fun h7=>?_)
 ·
  try simp only[zB] at h7
  exfalso;simp only[iH,Bool.and_eq_false_iff,decide_eq_false_iff_not] at h7;omega
 try simp only[zB] at h7
 refine jd 7 [0] ?_
 obtain⟨x57,Db⟩:=zG iL (x.st.toNat)
 refine Mj x.st lP 1 Nh Db (by omega) ?_
 obtain⟨l58,ads,h58⟩:=fF.get Db
 obtain aOk:=hO.r8.len _ (List.mem_of_getElem? ads)
 obtain⟨aaH,aoQ,aoM,aaG,rfl,aoO,aoP,aoN⟩:=h58
 refine jl 0 (Ng _ _ Db)<|jd 1 [0]<|jp (vs:=[.agg ⟨[.string x.name,zI x.st,zI x.no,zI x.head,.bool x.bold]⟩]) [] [] (fun aA hs hZ=>(UY (x:=(⟨x.name,x.st,x.no,x.head,x.bold⟩:aF))))<|zD 1<|jp (vs:=[.slice aaH l58.length aaG,.agg ⟨[zI x.no,zI 0]⟩]) [] [] (fun aA hs hZ=>IN ((show bI _ _ _ _ _ from ⟨aaH,aoQ,aoM,aaG,rfl,aoO,aoP,aoN⟩).up hs) (by first|omega| (simp only[List.length_set,List.length_append,List.length_cons,List.length_nil];omega))) ?_
 refine zD 4<|js 44 (!(decide (cQ (Bd x.no 0) l58 0≥0))) (fun h8=>?_) (fun h8=>?_)
 ·
  try simp only[zB] at h8
  exfalso;have:=Iw hx ads;omega
 try simp only[zB] at h8
 refine jd 20 [0]<|js 74 x.bold (fun h9=>?_) (fun h9=>?_)
 ·
  exfalso;rw[hBd] at h9;cases h9
 refine zD 7<|aE q0 (zI 0) [] [] [] (Sub.refl _) ⟨_,_,rfl,rfl,rfl,rfl⟩
theorem ab6{ro:Nat→Option Obj}(hK:gh ro l K)(hO:n9 K)(hx:aEO K.hd x):dz zT 114 [.agg ⟨l⟩,.agg ⟨[.string x.name,zI x.st,zI x.no,zI x.head,.bool x.bold]⟩,.bool false] ro (zI 0):=by
 obtain⟨vS,vT,vc,vh,vr,vb,va,vf,fa,fc,hv,rfl,hS,hT,rC,oe,hr,hb,ha,hf⟩:=hK
 obtain⟨iL,hs,fF⟩:=id hS
 obtain⟨jB,ht,fu⟩:=id hT
 obtain⟨hc,hh,F7⟩:=id rC
 obtain⟨mB,Uh,Uf,lP,rfl,Ug,Nh,Ng⟩:=hs
 obtain⟨eT,AM,AJ,dY,rfl,AK,sS,sR⟩:=ht
 obtain⟨eC,AO,AN,ek,rfl,C5,yI,yH⟩:=hc
 obtain⟨dJ,uK,uJ,dr,rfl,wZ,qB,qA⟩:=hh
 obtain⟨lR,JX,JW,lQ,rfl,Ni,Is,Ir⟩:=hr
 obtain⟨pF,WV,WT,oZ,rfl,WU,Uj,Ui⟩:=hb
 obtain⟨pd,Um,Uk,oN,rfl,Ul,Q6,Q5⟩:=ha
 obtain⟨nO,Hu,Ht,mf,rfl,Mh,Bb,Ba⟩:=hf
 have Cr:=hO.rules
 have qt:=hO.before.1
 have Ox:=hO.after.1
 have Ow:=hO.facts.1
 have Ov:=hO.ways.1
 have HG:=fF.len
 have D6:=fu.len
 have XL:=hO.r8.two
 have hl9:=hO.eE.nh
 have PQ:∀(i:Nat) (p:ei),([]:List ei)[i]?=some p→cg ⟨ro,[]⟩ 0 (0+i*6) 6 (n5 p):=fun _ _ h=>oG h
 have hNm:=hx.1.1
 have hNs:=hNm.1
 have hHd:=hx.1.2.1
 have hHl:=Vn hHd
 have hSt:=hx.1.2.2.1
 have hBd:=hx.1.2.2.2
 have hlen:=oe.len
 have hNo:=hx.2
 refine bA au [] [] bn<|zD 2<|jn fun b3=>jn fun b4=>jd 7 [0]<|jp (vs:=[.string x.name]) [] [] (fun aA hs hZ=>(Rj (by omega) hNm.2))<|jd 27 [1,0,1]<|ja ((hv.length:Int)-1) (by omega)<|jp (vs:=[zI x.head,zI (-1),zI ((hv.length:Int)-1)]) [] [] (fun aA hs hZ=>fR)<|zD 3<|js 19 (!(iH x.head (-1) ((hv.length:Int)-1))) (fun h1=>?_) (fun h1=>?_)
 ·
  try simp only[zB] at h1
  exfalso;simp only[iH,Bool.and_eq_false_iff,decide_eq_false_iff_not] at h1;omega
 try simp only[zB] at h1
 refine jd 7 [0]<|js 33 (decide (x.head≥0)) (fun h2=>?_) (fun h2=>?_)
 ·
  have kF:=h2
  replace kF:=of_decide_eq_true kF
  refine jd 5 [1,0] ?_
  obtain⟨DJ,xj⟩:=zG hv (x.head.toNat)
  refine Mj x.head dr 4 qB xj (by omega)<|zD 1<|jl 1 (qA _ _ xj)<|zD 4<|zJ 29 (DJ.cls=(-1)) (fun h3=>?_) fun h3=>?_
  ·
   exfalso;have:=OE oe hHd (by omega) xj;omega
  refine jd 8 [0]<|ja ((iL.length:Int)-1) (by omega)<|jp (vs:=[zI x.st,zI 0,zI ((iL.length:Int)-1)]) [] [] (fun aA hs hZ=>fR)<|zD 3<|js 44 (!(iH x.st 0 ((iL.length:Int)-1))) (fun h4=>?_) (fun h4=>?_)
  ·
   try simp only[zB] at h4
   exfalso;simp only[iH,Bool.and_eq_false_iff,decide_eq_false_iff_not] at h4;omega
  try simp only[zB] at h4
  refine jd 25 [0]<|jp (vs:=[zI x.no,zI 1,zI 40]) [] [] (fun aA hs hZ=>fR)<|zD 4<|js 65 (!(iH x.no 1 40)) (fun h5=>?_) (fun h5=>?_)
  ·
   try simp only[zB] at h5
   exfalso;simp only[iH,Bool.and_eq_false_iff,decide_eq_false_iff_not] at h5;omega
  try simp only[zB] at h5
  refine jd 7 [0]<|js 74 x.bold (fun h6=>?_) (fun h6=>?_)
  ·
   exfalso;rw[hBd] at h6;cases h6
  refine zD 7<|aE q0 (zI 0) [] [] [] (Sub.refl _) ⟨_,_,rfl,rfl,rfl,rfl⟩
 have kF:=h2
 replace kF:=of_decide_eq_false kF
 refine jd 20 [0]<|ja ((iL.length:Int)-1) (by omega)<|jp (vs:=[zI x.st,zI 0,zI ((iL.length:Int)-1)]) [] [] (fun aA hs hZ=>fR)<|zD 3<|js 44 (!(iH x.st 0 ((iL.length:Int)-1))) (fun h7=>?_) (fun h7=>?_)
 ·
  try simp only[zB] at h7
  exfalso;simp only[iH,Bool.and_eq_false_iff,decide_eq_false_iff_not] at h7;omega
 try simp only[zB] at h7
 refine jd 25 [0]<|jp (vs:=[zI x.no,zI 1,zI 40]) [] [] (fun aA hs hZ=>fR)<|zD 4<|js 65 (!(iH x.no 1 40)) (fun h8=>?_) (fun h8=>?_)
 ·
  try simp only[zB] at h8
  exfalso;simp only[iH,Bool.and_eq_false_iff,decide_eq_false_iff_not] at h8;omega
 try simp only[zB] at h8
 refine jd 7 [0]<|js 74 x.bold (fun h9=>?_) (fun h9=>?_)
 ·
  exfalso;rw[hBd] at h9;cases h9
 refine zD 7<|aE q0 (zI 0) [] [] [] (Sub.refl _) ⟨_,_,rfl,rfl,rfl,rfl⟩
theorem gh.up{ro aK:Nat→Option Obj}(h:gh ro l K)(hs:Sub ro aK):gh aK l K:=by
 obtain⟨vS,vT,vc,vh,vr,vb,va,vf,fa,fc,hv,rfl,h1,h2,h3,h4,h5,h6,h7,h8⟩:=h
 exact⟨_,_,_,_,_,_,_,_,_,_,_,rfl,h1.up hs,h2.up hs,h3.up hs,h4,h5.up hs,h6.up hs,h7.up hs,h8.up hs⟩
theorem ab7{ro:Nat→Option Obj}(hK:gh ro l K)(hO:n9 K)(hp:bI ro vp 5 eQ K.before):dz zT 88 [.agg ⟨l⟩,vp,.bool true] ro (zI 0):=by
 have Vu:=hK
 obtain⟨vS,vT,vc,vh,vr,vb,va,vf,fa,fc,hv,rfl,hS,hT,rC,oe,hr,hb,ha,hf⟩:=hK
 obtain⟨iL,hs,fF⟩:=id hS
 obtain⟨jB,ht,fu⟩:=id hT
 obtain⟨hc,hh,F7⟩:=id rC
 obtain⟨mB,Uh,Uf,lP,rfl,Ug,Nh,Ng⟩:=hs
 obtain⟨eT,AM,AJ,dY,rfl,AK,sS,sR⟩:=ht
 obtain⟨eC,AO,AN,ek,rfl,C5,yI,yH⟩:=hc
 obtain⟨dJ,uK,uJ,dr,rfl,wZ,qB,qA⟩:=hh
 obtain⟨lR,JX,JW,lQ,rfl,Ni,Is,Ir⟩:=hr
 obtain⟨pF,WV,WT,oZ,rfl,WU,Uj,Ui⟩:=hb
 obtain⟨pd,Um,Uk,oN,rfl,Ul,Q6,Q5⟩:=ha
 obtain⟨nO,Hu,Ht,mf,rfl,Mh,Bb,Ba⟩:=hf
 have Cr:=hO.rules
 have qt:=hO.before.1
 have Ox:=hO.after.1
 have Ow:=hO.facts.1
 have Ov:=hO.ways.1
 have HG:=fF.len
 have D6:=fu.len
 have XL:=hO.r8.two
 have hl9:=hO.eE.nh
 have PQ:∀(i:Nat) (p:ei),([]:List ei)[i]?=some p→cg ⟨ro,[]⟩ 0 (0+i*6) 6 (n5 p):=fun _ _ h=>oG h
 obtain⟨PS,qpb,qpo,It,rfl,qpk,WS,WR⟩:=hp
 refine bA au [] [] bn<|zD 2<|jn fun b3=>zD 9<|zJ 12 ((K.before.length:Int)>4) (fun h1=>?_) fun h1=>?_
 ·
  exfalso;omega
 refine zD 10<|ez [1,1,0,1,0,0] [] (fun(zz:Nat)=>[(2,.bool true),(3,zP b3),(13,.slice PS K.before.length It),(14,zI (K.before.length:Int)),(15,zI (zz:Int))]) (fun(zz:Nat)=>[.b b3 (.cells ⟨[.slice mB iL.length lP,.slice eT jB.length dY,.slice fa 0 fc,.slice eC K.cs.length ek,.slice dJ hv.length dr,.slice lR K.rules.length lQ,.slice pF K.before.length oZ,.slice pd K.after.length oN,zI K.gone,zI K.new,zI K.af,.slice nO K.facts.length mf]⟩ 38 (0,0))]) (fun(zz:Nat)=>zz≤K.before.length) (fun(zz:Nat)=>K.before.length-zz) 0 (by omega) [0] ?_
 rintro k hI K1 bM rest
 refine zD 5<|zJ 16 ((k:Int) <(K.before.length:Int)) (fun h2=>?_) fun h2=>?_
 ·
  refine zD 6 ?_
  obtain⟨Tz,FD⟩:=zG K.before k
  refine ij It 5 WS FD<|jl 0 (WR _ _ FD)<|jn fun b8=>jd 7 [0,1,0]<|jp (vs:=[.agg ⟨[.slice mB iL.length lP,.slice eT jB.length dY,.slice fa 0 fc,.slice eC K.cs.length ek,.slice dJ hv.length dr,.slice lR K.rules.length lQ,.slice pF K.before.length oZ,.slice pd K.after.length oN,zI K.gone,zI K.new,zI K.af,.slice nO K.facts.length mf]⟩,.agg ⟨[.string Tz.name,zI Tz.st,zI Tz.no,zI Tz.head,.bool Tz.bold]⟩,.bool true]) [] [] (fun aA hs hZ=>(ab5 (x:=Tz) (Vu.up hs) hO (hO.before.2 _ (List.mem_of_getElem? FD))))<|zD 10<|ja ((k:Int)+1) (by omega)<|zD 2<|bO bM (k+1) (by omega) (by omega) [1] (Sub.refl _)
 refine zD 7<|aE q0 (zI 0) [] [] [] (Sub.refl _) ⟨_,_,rfl,rfl,rfl,rfl⟩
theorem ab8{ro:Nat→Option Obj}(hK:gh ro l K)(hO:n9 K)(hp:bI ro vp 5 eQ K.after):dz zT 88 [.agg ⟨l⟩,vp,.bool false] ro (zI 0):=by
 have Vu:=hK
 obtain⟨vS,vT,vc,vh,vr,vb,va,vf,fa,fc,hv,rfl,hS,hT,rC,oe,hr,hb,ha,hf⟩:=hK
 obtain⟨iL,hs,fF⟩:=id hS
 obtain⟨jB,ht,fu⟩:=id hT
 obtain⟨hc,hh,F7⟩:=id rC
 obtain⟨mB,Uh,Uf,lP,rfl,Ug,Nh,Ng⟩:=hs
 obtain⟨eT,AM,AJ,dY,rfl,AK,sS,sR⟩:=ht
 obtain⟨eC,AO,AN,ek,rfl,C5,yI,yH⟩:=hc
 obtain⟨dJ,uK,uJ,dr,rfl,wZ,qB,qA⟩:=hh
 obtain⟨lR,JX,JW,lQ,rfl,Ni,Is,Ir⟩:=hr
 obtain⟨pF,WV,WT,oZ,rfl,WU,Uj,Ui⟩:=hb
 obtain⟨pd,Um,Uk,oN,rfl,Ul,Q6,Q5⟩:=ha
 obtain⟨nO,Hu,Ht,mf,rfl,Mh,Bb,Ba⟩:=hf
 have Cr:=hO.rules
 have qt:=hO.before.1
 have Ox:=hO.after.1
 have Ow:=hO.facts.1
 have Ov:=hO.ways.1
 have HG:=fF.len
 have D6:=fu.len
 have XL:=hO.r8.two
 have hl9:=hO.eE.nh
 have PQ:∀(i:Nat) (p:ei),([]:List ei)[i]?=some p→cg ⟨ro,[]⟩ 0 (0+i*6) 6 (n5 p):=fun _ _ h=>oG h
 obtain⟨PS,qpb,qpo,It,rfl,qpk,WS,WR⟩:=hp
 refine bA au [] [] bn<|zD 2<|jn fun b3=>zD 9<|zJ 12 ((K.after.length:Int)>4) (fun h1=>?_) fun h1=>?_
 ·
  exfalso;omega
 refine zD 10<|ez [1,1,0,1,0,0] [] (fun(zz:Nat)=>[(2,.bool false),(3,zP b3),(13,.slice PS K.after.length It),(14,zI (K.after.length:Int)),(15,zI (zz:Int))]) (fun(zz:Nat)=>[.b b3 (.cells ⟨[.slice mB iL.length lP,.slice eT jB.length dY,.slice fa 0 fc,.slice eC K.cs.length ek,.slice dJ hv.length dr,.slice lR K.rules.length lQ,.slice pF K.before.length oZ,.slice pd K.after.length oN,zI K.gone,zI K.new,zI K.af,.slice nO K.facts.length mf]⟩ 38 (0,0))]) (fun(zz:Nat)=>zz≤K.after.length) (fun(zz:Nat)=>K.after.length-zz) 0 (by omega) [0] ?_
 rintro k hI K1 bM rest
 refine zD 5<|zJ 16 ((k:Int) <(K.after.length:Int)) (fun h2=>?_) fun h2=>?_
 ·
  refine zD 6 ?_
  obtain⟨Tz,FD⟩:=zG K.after k
  refine ij It 5 WS FD<|jl 0 (WR _ _ FD)<|jn fun b8=>jd 7 [0,1,0]<|jp (vs:=[.agg ⟨[.slice mB iL.length lP,.slice eT jB.length dY,.slice fa 0 fc,.slice eC K.cs.length ek,.slice dJ hv.length dr,.slice lR K.rules.length lQ,.slice pF K.before.length oZ,.slice pd K.after.length oN,zI K.gone,zI K.new,zI K.af,.slice nO K.facts.length mf]⟩,.agg ⟨[.string Tz.name,zI Tz.st,zI Tz.no,zI Tz.head,.bool Tz.bold]⟩,.bool false]) [] [] (fun aA hs hZ=>(ab6 (x:=Tz) (Vu.up hs) hO (hO.after.2 _ (List.mem_of_getElem? FD))))<|zD 10<|ja ((k:Int)+1) (by omega)<|zD 2<|bO bM (k+1) (by omega) (by omega) [1] (Sub.refl _)
 refine zD 7<|aE q0 (zI 0) [] [] [] (Sub.refl _) ⟨_,_,rfl,rfl,rfl,rfl⟩
theorem apB{x y:gV}{ro:Nat→Option Obj}(hb:ro b=some (.cells ⟨[zI y.a,zI y.b,.bool y.same]⟩ 57 (0,0))):dz zT 116 [.agg ⟨[zI x.a,zI x.b,.bool x.same]⟩,zP b] ro (.bool (decide (x.a=y.a)&&decide (x.b=y.b))):=by
 refine bA au [] [] bn<|zD 2<|jn fun b2=>jd 7 [0]<|jl (b:=b) (off:=0) (m:=3) (vs:=[zI y.a,zI y.b,.bool y.same]) 0 ⟨_,_,_,.inl hb,rfl⟩<|zD 2<|jj 6 [(3,.bool false),(15,.bool ((decide (x.a=y.a))&&(decide (x.b=y.b))))] (fun gD=>?_) (fun hj=>?_)
 rotate_left
 refine js 9 (decide (x.a=y.a)) (fun h1=>?_) (fun h1=>?_)
 ·
  have fS:=h1
  replace fS:=of_decide_eq_true fS
  refine jd 3 [0]<|jl (b:=b) (off:=0) (m:=3) (vs:=[zI y.a,zI y.b,.bool y.same]) 1 ⟨_,_,_,.inl hb,rfl⟩<|zD 2<|jw 15 (.bool ((decide (x.a=y.a))&&(decide (x.b=y.b)))) (w:= .bool (decide (x.b=y.b))) (by rw[h1]<;>rfl) ?_
  exact hj _ (by kernel_rfl) (by kernel_rfl)
 ·
  have fS:=h1
  replace fS:=of_decide_eq_false fS
  refine zD 6<|jw 15 (.bool ((decide (x.a=y.a))&&(decide (x.b=y.b)))) (w:= .bool false) (by rw[h1]<;>rfl) ?_
  exact hj _ (by kernel_rfl) (by kernel_rfl)
 refine zD 3<|aE q0 (.bool ((decide (x.a=y.a))&&(decide (x.b=y.b)))) [] [] [] (Sub.refl _) ⟨_,_,rfl,rfl,rfl,rfl⟩
def CW(x y:gV):Bool:=decide (y.a=x.a)&&decide (y.b=x.b)
theorem BL{α:Type}{p:α→Bool}:∀ {l:List α} {k:Nat},(∀y∈l,p y=false)→cQ p l k= -1
 | [],_,_=>rfl
 |x::l,k,h=>by simp only[cQ,h x (List.mem_cons_self ..),cond_false];exact BL fun y hy=>h y (List.mem_cons_of_mem _ hy)
theorem ae5{x:gV}(h:fs.Pairwise fun x y=>¬(x.a=y.a∧x.b=y.b))(hx:fs[i]?=some x):cQ (CW x) (fs.take i) 0 <0:=by
 rw[BL]
 ·omega
 intro y hy
 obtain⟨j,hj⟩:=List.getElem?_of_mem hy
 rw[List.getElem?_take] at hj
 split at hj
 ·rename_i yM
  have:=pG h yM hj hx
  simp only[CW,Bool.and_eq_false_iff,decide_eq_false_iff_not]
  by_cases h1:y.a=x.a
  ·exact .inr fun h2=>this ⟨h1,h2⟩
  exact .inl h1
 cases hj
theorem apU{v:Value}{x:gV}{ro:Nat→Option Obj}(hf:bI ro v 3 vM fs)(hn:fs.length≤1000)(hb:ro b=some (.cells ⟨[zI x.a,zI x.b,.bool x.same]⟩ 57 (0,0))):dz zT 160 [v,.func (.func 116) ⟨[]⟩ ⟨[zP b]⟩] ro (zI (cQ (CW x) fs 0)):=by
 obtain⟨nO,Hu,Ht,mf,rfl,Mh,Bb,Ba⟩:=hf
 refine bA au [] [] bn<|zD 12<|ez [1,0,1,0,0] [] (fun(zz:Nat)=>[(0,.slice nO fs.length mf),(1,.func (.func 116) ⟨[]⟩ ⟨[zP b]⟩),(7,zI (fs.length:Int)),(8,zI (zz:Int))]) (fun(zz:Nat)=>[]) (fun(zz:Nat)=>zz≤fs.length∧cQ (CW x) fs 0=cQ (CW x) (fs.drop zz) zz) (fun(zz:Nat)=>fs.length-zz) 0 ⟨by omega,rfl⟩ [] ?_
 rintro k hI K1 bM rest
 refine zD 5<|zJ 9 ((k:Int) <(fs.length:Int)) (fun h1=>?_) fun h1=>?_
 ·
  refine zD 14 ?_
  obtain⟨fC,eA⟩:=zG fs k
  refine ij mf 3 Bb eA<|jl 0 (Ba _ _ eA)<|jp (vs:=[.agg ⟨[zI fC.a,zI fC.b,.bool fC.same]⟩,zP b]) [] [] (fun aA hs hZ=>(apB (hs _ _ hb)))<|zD 1<|js 16 (CW x fC) (fun h2=>?_) (fun h2=>?_)
  ·
   refine zD 7<|aE q0 (zI (k:Int)) [] [] [] (Sub.refl _) ⟨_,_,rfl,rfl,by rw[hI.2,jm eA,show CW x fC=true from (by assumption)];rfl,rfl⟩
  refine zD 3<|ja ((k:Int)+1) (by omega)<|zD 2<|bO bM (k+1) ⟨by omega,by rw[hI.2,jm eA,show CW x fC=false from (by assumption)];rfl⟩ (by omega) [] (Sub.refl _)
 refine zD 7<|aE q0 (zI (-1)) [] [] [] (Sub.refl _) ⟨_,_,rfl,rfl,by rw[hI.2,p8 (by omega)],rfl⟩
theorem ajf{v:Value}{x:gV}{ro:Nat→Option Obj}(hf:bI ro v 3 vM fs)(hn:fs.length≤1000)(hb:ro b=some (.cells ⟨[zI x.a,zI x.b,.bool x.same]⟩ 57 (0,0))):dz zT 115 [v,.func (.func 116) ⟨[]⟩ ⟨[zP b]⟩] ro (.bool (decide (cQ (CW x) fs 0≥0))):=by
 obtain⟨nO,Hu,Ht,mf,rfl,Mh,Bb,Ba⟩:=hf
 refine bA au [] [] bn<|zD 8<|jp (vs:=[.slice nO fs.length mf,.func (.func 116) ⟨[]⟩ ⟨[zP b]⟩]) [] [] (fun aA hs hZ=>apU ((show bI _ _ _ _ _ from ⟨nO,Hu,Ht,mf,rfl,Mh,Bb,Ba⟩).up hs) (by first|omega| (simp only[List.length_set,List.length_append,List.length_cons,List.length_nil];omega)) (hs _ _ hb)) ?_
 refine zD 4<|aE q0 (.bool (decide ((cQ (CW x) fs 0)≥0))) [] [] [] (Sub.refl _) ⟨_,_,rfl,rfl,rfl,rfl⟩
theorem ayd{x:gV}{ro:Nat→Option Obj}(hK:gh ro l K)(hO:n9 K)(hp:bI ro vp 3 vM fs)(hn:fs.length≤1000)(hx:(0≤x.a∧x.a <K.before.length)∧(0≤x.b∧x.b <K.after.length))(hw:cQ (CW x) fs 0 <0):dz zT 90 [.agg ⟨l⟩,vp,.agg ⟨[zI x.a,zI x.b,.bool x.same]⟩] ro (zI 0):=by
 obtain⟨vS,vT,vc,vh,vr,vb,va,vf,fa,fc,hv,rfl,hS,hT,rC,oe,hr,hb,ha,hf⟩:=hK
 obtain⟨iL,hs,fF⟩:=id hS
 obtain⟨jB,ht,fu⟩:=id hT
 obtain⟨hc,hh,F7⟩:=id rC
 obtain⟨mB,Uh,Uf,lP,rfl,Ug,Nh,Ng⟩:=hs
 obtain⟨eT,AM,AJ,dY,rfl,AK,sS,sR⟩:=ht
 obtain⟨eC,AO,AN,ek,rfl,C5,yI,yH⟩:=hc
 obtain⟨dJ,uK,uJ,dr,rfl,wZ,qB,qA⟩:=hh
 obtain⟨lR,JX,JW,lQ,rfl,Ni,Is,Ir⟩:=hr
 obtain⟨pF,WV,WT,oZ,rfl,WU,Uj,Ui⟩:=hb
 obtain⟨pd,Um,Uk,oN,rfl,Ul,Q6,Q5⟩:=ha
 obtain⟨nO,Hu,Ht,mf,rfl,Mh,Bb,Ba⟩:=hf
 have Cr:=hO.rules
 have qt:=hO.before.1
 have Ox:=hO.after.1
 have Ow:=hO.facts.1
 have Ov:=hO.ways.1
 have HG:=fF.len
 have D6:=fu.len
 have XL:=hO.r8.two
 have hl9:=hO.eE.nh
 have PQ:∀(i:Nat) (p:ei),([]:List ei)[i]?=some p→cg ⟨ro,[]⟩ 0 (0+i*6) 6 (n5 p):=fun _ _ h=>oG h
 obtain⟨PS,qpb,qpo,It,rfl,qpk,WS,WR⟩:=hp
 refine bA au [] [] bn<|zD 2<|jn fun b3=>jn fun b5=>jd 12 [0,1]<|ja ((K.before.length:Int)-1) (by omega)<|jp (vs:=[zI x.a,zI 0,zI ((K.before.length:Int)-1)]) [] [] (fun aA hs hZ=>fR)<|zD 3<|js 7 (!(iH x.a 0 ((K.before.length:Int)-1))) (fun h1=>?_) (fun h1=>?_)
 ·
  try simp only[zB] at h1
  exfalso;simp only[iH,Bool.and_eq_false_iff,decide_eq_false_iff_not] at h1;omega
 try simp only[zB] at h1
 refine jd 7 [0,1]<|ja ((K.after.length:Int)-1) (by omega)<|jp (vs:=[zI x.b,zI 0,zI ((K.after.length:Int)-1)]) [] [] (fun aA hs hZ=>fR)<|zD 3<|js 7 (!(iH x.b 0 ((K.after.length:Int)-1))) (fun h2=>?_) (fun h2=>?_)
 ·
  try simp only[zB] at h2
  exfalso;simp only[iH,Bool.and_eq_false_iff,decide_eq_false_iff_not] at h2;omega
 try simp only[zB] at h2
 refine zD 5<|jp (vs:=[.slice PS fs.length It,.func (.func 116) ⟨[]⟩ ⟨[zP b5]⟩]) [0] [(b5,.cells ⟨[zI x.a,zI x.b,.bool x.same]⟩ 57 (0,0))] (fun aA hs hZ=>ajf ((show bI _ _ _ _ _ from ⟨PS,qpb,qpo,It,rfl,qpk,WS,WR⟩).up hs) (by first|omega| (simp only[List.length_set,List.length_append,List.length_cons,List.length_nil];omega)) hZ.head) ?_
 refine zD 2<|js 24 (decide (cQ (CW x) fs 0≥0)) (fun h3=>?_) (fun h3=>?_)
 ·
  exfalso;have:=of_decide_eq_true h3;omega
 refine zD 7<|aE q0 (zI 0) [] [] [] (Sub.refl _) ⟨_,_,rfl,rfl,rfl,rfl⟩
theorem av2{w:ByteArray}{ro:Nat→Option Obj}(hs:1≤w.size∧w.size≤12)(hc:cH w (bs [99,108,97,115,115])=false)(hf:cH w (bs [102,105,110,105,115])=false)(hK:∀b∈w.data.toList,97≤b.toNat∧b.toNat≤122):dz zT 189 [.string w] ro (.bool true):=by
 refine bA au [] [] bn<|zD 11<|jj 4 [(0,.string w),(2,.bool false),(12,.bool ((decide ((w.size:Int)=0))||(decide ((w.size:Int)>12))))] (fun gD=>?_) (fun hj=>?_)
 rotate_left
 refine js 8 (decide ((w.size:Int)=0)) (fun h1=>?_) (fun h1=>?_)
 ·
  have fS:=h1
  replace fS:=of_decide_eq_true fS
  refine zD 4<|jw 12 (.bool ((decide ((w.size:Int)=0))||(decide ((w.size:Int)>12)))) (w:= .bool true) (by rw[h1]<;>rfl) ?_
  exact hj _ (by kernel_rfl) (by kernel_rfl)
 ·
  have fS:=h1
  replace fS:=of_decide_eq_false fS
  refine zD 4<|jw 12 (.bool ((decide ((w.size:Int)=0))||(decide ((w.size:Int)>12)))) (w:= .bool (decide ((w.size:Int)>12))) (by rw[h1]<;>rfl) ?_
  exact hj _ (by kernel_rfl) (by kernel_rfl)
 refine zD 1<|jj 3 [(0,.string w),(2,.bool false),(16,.bool (((decide ((w.size:Int)=0))||(decide ((w.size:Int)>12)))||(cH w (bs [99,108,97,115,115]))))] (fun gD=>?_) (fun hj=>?_)
 rotate_left
 refine js 13 ((decide ((w.size:Int)=0))||(decide ((w.size:Int)>12))) (fun h2=>?_) (fun h2=>?_)
 ·
  have kF:=h2
  try simp only[zB] at kF
  refine zD 3<|jw 16 (.bool (((decide ((w.size:Int)=0))||(decide ((w.size:Int)>12)))||(cH w (bs [99,108,97,115,115])))) (w:= .bool true) (by rw[h2]<;>rfl) ?_
  exact hj _ (by kernel_rfl) (by kernel_rfl)
 ·
  have kF:=h2
  try simp only[zB] at kF
  refine zD 3<|jw 16 (.bool (((decide ((w.size:Int)=0))||(decide ((w.size:Int)>12)))||(cH w (bs [99,108,97,115,115])))) (w:= .bool (cH w (bs [99,108,97,115,115]))) (by rw[h2]<;>rfl) ?_
  exact hj _ (by kernel_rfl) (by kernel_rfl)
 refine zD 1<|jj 3 [(0,.string w),(2,.bool false),(20,.bool ((((decide ((w.size:Int)=0))||(decide ((w.size:Int)>12)))||(cH w (bs [99,108,97,115,115])))||(cH w (bs [102,105,110,105,115]))))] (fun gD=>?_) (fun hj=>?_)
 rotate_left
 refine js 17 (((decide ((w.size:Int)=0))||(decide ((w.size:Int)>12)))||(cH w (bs [99,108,97,115,115]))) (fun h3=>?_) (fun h3=>?_)
 ·
  have sC:=h3
  try simp only[zB] at sC
  refine zD 3<|jw 20 (.bool ((((decide ((w.size:Int)=0))||(decide ((w.size:Int)>12)))||(cH w (bs [99,108,97,115,115])))||(cH w (bs [102,105,110,105,115])))) (w:= .bool true) (by rw[h3]<;>rfl) ?_
  exact hj _ (by kernel_rfl) (by kernel_rfl)
 ·
  have sC:=h3
  try simp only[zB] at sC
  refine zD 3<|jw 20 (.bool ((((decide ((w.size:Int)=0))||(decide ((w.size:Int)>12)))||(cH w (bs [99,108,97,115,115])))||(cH w (bs [102,105,110,105,115])))) (w:= .bool (cH w (bs [102,105,110,105,115]))) (by rw[h3]<;>rfl) ?_
  exact hj _ (by kernel_rfl) (by kernel_rfl)
 refine zD 1<|js 20 ((((decide ((w.size:Int)=0))||(decide ((w.size:Int)>12)))||(cH w (bs [99,108,97,115,115])))||(cH w (bs [102,105,110,105,115]))) (fun h4=>?_) (fun h4=>?_)
 ·
  try simp only[zB] at h4
  exfalso;simp only[hc,hf,Bool.or_false,Bool.or_eq_true,decide_eq_true_eq,Bool.false_eq_true,or_false] at h4;omega
 try simp only[zB] at h4
 refine zD 6<|jn fun r22=>zD 2<|ez [1,1,0,1,0,0] [] (fun(zz:Nat)=>[(22,zP r22)]) (fun(zz:Nat)=>[.b r22 (.stringIter w zz)]) (fun(zz:Nat)=>zz≤w.data.toList.length) (fun(zz:Nat)=>w.data.toList.length-zz) 0 (by omega) [0] ?_
 rintro p hI K1 bM rest
 refine zD 2 ?_
 cases XJ:w.data.toList[p]? with
 |some uG=>
  refine jnA r22 0 XJ (by have:=hK _ (List.mem_of_getElem? XJ);omega) ?_
  refine zD 7 ?_
  have Vk:=hK _ (List.mem_of_getElem? XJ)
  refine zD 9<|jj 3 [(22,zP r22),(31,.bool ((decide ((uG.toNat:Int) <97))||(decide ((uG.toNat:Int)>122))))] (fun gD=>?_) (fun hj=>?_)
  rotate_left
  refine js 28 (decide ((uG.toNat:Int) <97)) (fun h5=>?_) (fun h5=>?_)
  ·
   have Dq:=h5
   replace Dq:=of_decide_eq_true Dq
   refine zD 3<|jw 31 (.bool ((decide ((uG.toNat:Int) <97))||(decide ((uG.toNat:Int)>122)))) (w:= .bool true) (by rw[h5]<;>rfl) ?_
   exact hj _ (by kernel_rfl) (by kernel_rfl)
  ·
   have Dq:=h5
   replace Dq:=of_decide_eq_false Dq
   refine zD 3<|jw 31 (.bool ((decide ((uG.toNat:Int) <97))||(decide ((uG.toNat:Int)>122)))) (w:= .bool (decide ((uG.toNat:Int)>122))) (by rw[h5]<;>rfl) ?_
   exact hj _ (by kernel_rfl) (by kernel_rfl)
  refine zD 1<|js 31 ((decide ((uG.toNat:Int) <97))||(decide ((uG.toNat:Int)>122))) (fun h6=>?_) (fun h6=>?_)
  ·
   try simp only[zB] at h6
   exfalso;omega
  try simp only[zB] at h6
  refine zD 2<|bO bM (p+1) (by have:=(List.getElem?_eq_some_iff.1 XJ).1;omega) (by have:=(List.getElem?_eq_some_iff.1 XJ).1;omega) [0] (Sub.refl _)
 |none=>
  refine jnZ r22 0 XJ<|zD 10<|aE q0 (.bool true) [] [] [] (Sub.refl _) ⟨_,_,rfl,rfl,rfl,rfl⟩
def Dv(x y:bF):Bool:=cH y.name x.name
theorem aoc{x y:bF}{ro:Nat→Option Obj}(hb:ro b=some (.cells ⟨[.string x.name,zI x.under]⟩ 130 (0,0))):dz zT 191 [.agg ⟨[.string y.name,zI y.under]⟩,zP b] ro (.bool (cH y.name x.name)):=by
 refine bA au [] [] bn<|zD 2<|jn fun b2=>jd 7 [0]<|jl (b:=b) (off:=0) (m:=2) (vs:=[.string x.name,zI x.under]) 0 ⟨_,_,_,.inl hb,rfl⟩<|zD 4<|aE q0 (.bool (cH y.name x.name)) [] [] [] (Sub.refl _) ⟨_,_,rfl,rfl,rfl,rfl⟩
theorem aob{v:Value}{fs:List bF}{x:bF}{ro:Nat→Option Obj}(hf:bI ro v 2 oD fs)(hn:fs.length≤1000)(hb:ro b=some (.cells ⟨[.string x.name,zI x.under]⟩ 130 (0,0))):dz zT 214 [v,.func (.func 191) ⟨[]⟩ ⟨[zP b]⟩] ro (zI (cQ (Dv x) fs 0)):=by
 obtain⟨nO,Hu,Ht,mf,rfl,Mh,Bb,Ba⟩:=hf
 refine bA au [] [] bn<|zD 12<|ez [1,0,1,0,0] [] (fun(zz:Nat)=>[(0,.slice nO fs.length mf),(1,.func (.func 191) ⟨[]⟩ ⟨[zP b]⟩),(7,zI (fs.length:Int)),(8,zI (zz:Int))]) (fun(zz:Nat)=>[]) (fun(zz:Nat)=>zz≤fs.length∧cQ (Dv x) fs 0=cQ (Dv x) (fs.drop zz) zz) (fun(zz:Nat)=>fs.length-zz) 0 ⟨by omega,rfl⟩ [] ?_
 rintro k hI K1 bM rest
 refine zD 5<|zJ 9 ((k:Int) <(fs.length:Int)) (fun h1=>?_) fun h1=>?_
 ·
  refine zD 14 ?_
  obtain⟨fC,eA⟩:=zG fs k
  refine ij mf 2 Bb eA<|jl 0 (Ba _ _ eA)<|jp (vs:=[.agg ⟨[.string fC.name,zI fC.under]⟩,zP b]) [] [] (fun aA hs hZ=>(aoc (y:=fC) (hs _ _ hb)))<|zD 1<|js 16 (Dv x fC) (fun h2=>?_) (fun h2=>?_)
  ·
   refine zD 7<|aE q0 (zI (k:Int)) [] [] [] (Sub.refl _) ⟨_,_,rfl,rfl,by rw[hI.2,jm eA,show Dv x fC=true from (by assumption)];rfl,rfl⟩
  refine zD 3<|ja ((k:Int)+1) (by omega)<|zD 2<|bO bM (k+1) ⟨by omega,by rw[hI.2,jm eA,show Dv x fC=false from (by assumption)];rfl⟩ (by omega) [] (Sub.refl _)
 refine zD 7<|aE q0 (zI (-1)) [] [] [] (Sub.refl _) ⟨_,_,rfl,rfl,by rw[hI.2,p8 (by omega)],rfl⟩
theorem ahS{v:Value}{fs:List bF}{x:bF}{ro:Nat→Option Obj}(hf:bI ro v 2 oD fs)(hn:fs.length≤1000)(hb:ro b=some (.cells ⟨[.string x.name,zI x.under]⟩ 130 (0,0))):dz zT 190 [v,.func (.func 191) ⟨[]⟩ ⟨[zP b]⟩] ro (.bool (decide (cQ (Dv x) fs 0≥0))):=by
 obtain⟨nO,Hu,Ht,mf,rfl,Mh,Bb,Ba⟩:=hf
 refine bA au [] [] bn<|zD 8<|jp (vs:=[.slice nO fs.length mf,.func (.func 191) ⟨[]⟩ ⟨[zP b]⟩]) [] [] (fun aA hs hZ=>aob ((show bI _ _ _ _ _ from ⟨nO,Hu,Ht,mf,rfl,Mh,Bb,Ba⟩).up hs) (by first|omega| (simp only[List.length_set,List.length_append,List.length_cons,List.length_nil];omega)) (hs _ _ hb)) ?_
 refine zD 4<|aE q0 (.bool (decide ((cQ (Dv x) fs 0)≥0))) [] [] [] (Sub.refl _) ⟨_,_,rfl,rfl,rfl,rfl⟩
def YW(x y:bp):Bool:=cH y.word x.word
theorem awa{x y:bp}{ro:Nat→Option Obj}(hb:ro b=some (.cells ⟨[.string x.word,zI x.cls,zI x.nK,x.dQ]⟩ 133 (0,0))):dz zT 194 [.agg ⟨[.string y.word,zI y.cls,zI y.nK,y.dQ]⟩,zP b] ro (.bool (cH y.word x.word)):=by
 refine bA au [] [] bn<|zD 2<|jn fun b2=>jd 7 [0]<|jl (b:=b) (off:=0) (m:=4) (vs:=[.string x.word,zI x.cls,zI x.nK,x.dQ]) 0 ⟨_,_,_,.inl hb,rfl⟩<|zD 4<|aE q0 (.bool (cH y.word x.word)) [] [] [] (Sub.refl _) ⟨_,_,rfl,rfl,rfl,rfl⟩
theorem av9{v:Value}{fs:List bp}{x:bp}{ro:Nat→Option Obj}(hf:bI ro v 4 lK fs)(hn:fs.length≤1000)(hb:ro b=some (.cells ⟨[.string x.word,zI x.cls,zI x.nK,x.dQ]⟩ 133 (0,0))):dz zT 215 [v,.func (.func 194) ⟨[]⟩ ⟨[zP b]⟩] ro (zI (cQ (YW x) fs 0)):=by
 obtain⟨nO,Hu,Ht,mf,rfl,Mh,Bb,Ba⟩:=hf
 refine bA au [] [] bn<|zD 12<|ez [1,0,1,0,0] [] (fun(zz:Nat)=>[(0,.slice nO fs.length mf),(1,.func (.func 194) ⟨[]⟩ ⟨[zP b]⟩),(7,zI (fs.length:Int)),(8,zI (zz:Int))]) (fun(zz:Nat)=>[]) (fun(zz:Nat)=>zz≤fs.length∧cQ (YW x) fs 0=cQ (YW x) (fs.drop zz) zz) (fun(zz:Nat)=>fs.length-zz) 0 ⟨by omega,rfl⟩ [] ?_
 rintro k hI K1 bM rest
 refine zD 5<|zJ 9 ((k:Int) <(fs.length:Int)) (fun h1=>?_) fun h1=>?_
 ·
  refine zD 14 ?_
  obtain⟨fC,eA⟩:=zG fs k
  refine ij mf 4 Bb eA<|jl 0 (Ba _ _ eA)<|jp (vs:=[.agg ⟨[.string fC.word,zI fC.cls,zI fC.nK,fC.dQ]⟩,zP b]) [] [] (fun aA hs hZ=>(awa (y:=fC) (hs _ _ hb)))<|zD 1<|js 16 (YW x fC) (fun h2=>?_) (fun h2=>?_)
  ·
   refine zD 7<|aE q0 (zI (k:Int)) [] [] [] (Sub.refl _) ⟨_,_,rfl,rfl,by rw[hI.2,jm eA,show YW x fC=true from (by assumption)];rfl,rfl⟩
  refine zD 3<|ja ((k:Int)+1) (by omega)<|zD 2<|bO bM (k+1) ⟨by omega,by rw[hI.2,jm eA,show YW x fC=false from (by assumption)];rfl⟩ (by omega) [] (Sub.refl _)
 refine zD 7<|aE q0 (zI (-1)) [] [] [] (Sub.refl _) ⟨_,_,rfl,rfl,by rw[hI.2,p8 (by omega)],rfl⟩
theorem an8{v:Value}{fs:List bp}{x:bp}{ro:Nat→Option Obj}(hf:bI ro v 4 lK fs)(hn:fs.length≤1000)(hb:ro b=some (.cells ⟨[.string x.word,zI x.cls,zI x.nK,x.dQ]⟩ 133 (0,0))):dz zT 193 [v,.func (.func 194) ⟨[]⟩ ⟨[zP b]⟩] ro (.bool (decide (cQ (YW x) fs 0≥0))):=by
 obtain⟨nO,Hu,Ht,mf,rfl,Mh,Bb,Ba⟩:=hf
 refine bA au [] [] bn<|zD 8<|jp (vs:=[.slice nO fs.length mf,.func (.func 194) ⟨[]⟩ ⟨[zP b]⟩]) [] [] (fun aA hs hZ=>av9 ((show bI _ _ _ _ _ from ⟨nO,Hu,Ht,mf,rfl,Mh,Bb,Ba⟩).up hs) (by first|omega| (simp only[List.length_set,List.length_append,List.length_cons,List.length_nil];omega)) (hs _ _ hb)) ?_
 refine zD 4<|aE q0 (.bool (decide ((cQ (YW x) fs 0)≥0))) [] [] [] (Sub.refl _) ⟨_,_,rfl,rfl,rfl,rfl⟩
def yU(w:ByteArray):Bool:=Nat.ble 1 w.size&&(Nat.ble w.size 12&&(!cH w (bs [99,108,97,115,115])&&(!cH w (bs [102,105,110,105,115])&&w.data.toList.all fun b=>Nat.ble 97 b.toNat&&Nat.ble b.toNat 122)))
theorem Wq:∀w∈mT,yU w=true:=List.all_eq_true.1 (by kernel_rfl)
theorem Ym:∀w∈oL,yU w=true:=List.all_eq_true.1 (by kernel_rfl)
theorem ZV{w:ByteArray}{ro:Nat→Option Obj}(h:yU w=true):dz zT 189 [.string w] ro (.bool true):=by
 simp only[yU,Bool.and_eq_true,Nat.ble_eq,Bool.not_eq_true',List.all_eq_true] at h
 exact av2 ⟨h.1,h.2.1⟩ h.2.2.1 h.2.2.2.1 h.2.2.2.2
structure kX(cs:List bF)(hd:List bZ):Prop where
 nc:0 <cs.length∧cs.length≤6
 nh:hd.length≤6
 cls:∀(i:Nat) (c:bF),cs[i]?=some c→yU c.name=true∧ -1≤c.under∧c.under <i
 names:(cs.map (·.name)).Pairwise fun a b=>cH a b=false
 zx:∀(i:Nat) (x:bZ),hd[i]?=some x→yU x.word=true∧gB cs.length hd.length i x
 words:(hd.map (·.word)).Pairwise fun a b=>cH a b=false∧strLt b a=false
theorem wj.v(h:wj cs hd):kX cs hd:=
 ⟨⟨h.nc.1,by have:=h.nc.2;omega⟩,by have:=h.nh;omega,fun i c hc=>⟨Wq _ (h.cls i c hc).1,(h.cls i c hc).2⟩,h.names,fun i x hx=>⟨Ym _ (h.zx i x hx).1,(h.zx i x hx).2⟩,h.words⟩
theorem Pc{α:Type}{p:α→α→Bool}{l:List α}{x:α}(h:l.Pairwise fun y x=>p x y=false)(hx:l[i]?=some x):cQ (p x) (l.take i) 0 <0:=by
 rw[BL]
 ·omega
 intro y hy
 obtain⟨j,hj⟩:=List.getElem?_of_mem hy
 rw[List.getElem?_take] at hj
 split at hj
 ·rename_i yM
  exact pG h yM hj hx
 cases hj
theorem akG{x:bF}(h:kX cs hd)(hx:cs[i]?=some x):cQ (Dv x) (cs.take i) 0 <0:=
 Pc (p:=Dv) (List.pairwise_map.1 h.names) hx
theorem MA{hv:List bp}(h:dD dq hv hd):hv.map (·.word)=hd.map (·.word):=by
 induction h with
 |nil=>rfl
 |cons h1 _ ih=>simp only[List.map_cons,h1.1,ih]
theorem arT{hv:List bp}{x:bp}(h:kX cs hd)(hs:dD dq hv hd)(hx:hv[i]?=some x):cQ (YW x) (hv.take i) 0 <0:=
 Pc (p:=YW) ((List.pairwise_map.1 (MA hs▸h.words)).imp fun h=>h.1) hx
theorem aAd{hv:List bp}{j:Nat}{x y:bp}(h:kX cs hd)(hs:dD dq hv hd)(G9:j <i)(hx:hv[i]?=some x) (hy:hv[j]?=some y):strLt x.word y.word=false:=
 (pG (List.pairwise_map.1 (MA hs▸h.words)) G9 hy hx).2
theorem aag{ro:Nat→Option Obj}{nc nh:Nat}{x:bp}{y:bZ}(h:gB nc nh i y)(hr:qW ro x y):
 (-1≤x.cls∧x.cls <nc)∧(-1≤x.nK∧x.nK <nh∧x.nK≠i)∧(y.dQ.length≤nh∧y.dQ.Pairwise (· < ·)∧∀z∈y.dQ,0≤z∧z <nh∧z≠i)∧(x.nK≠ -1→x.cls= -1∧y.dQ.length=0)∧(x.nK= -1→x.cls= -1→y.dQ.length≠0):=by
 rw[hr.2.1,hr.2.2.1]
 exact⟨h.1,h.2.1,h.2.2.1,fun a=>⟨(h.2.2.2.1 a).1,by rw[(h.2.2.2.1 a).2];rfl⟩,fun a b c=>h.2.2.2.2 a b (List.eq_nil_of_length_eq_zero c)⟩
theorem aoe{v:Value}{ro:Nat→Option Obj}(hc:bI ro v 2 oD cs)(hT:kX cs hd)(hi:i <cs.length):dz zT 155 [v,zI (i:Int)] ro (zI 0):=by
 obtain⟨eC,AO,AN,ek,rfl,C5,yI,yH⟩:=hc
 have Cq:=hT.nc
 refine bA au [] [] bn<|zD 8 ?_
 obtain⟨x8,hx8⟩:=zG cs i
 refine ij ek 2 yI hx8<|jl 0 (yH _ _ hx8)<|jn fun b5=>jd 5 [0] ?_
 have ir:=hT.cls _ _ hx8
 have hcn:cQ (Dv x8) (cs.take (i:Int).toNat) 0 <0:=akG hT hx8
 have htk:(cs.take (i:Int).toNat).length≤cs.length:=by rw[List.length_take];omega
 refine jd 3 [0]<|jp (vs:=[.string x8.name]) [] [] (fun aA hs hZ=>(ZV ir.1))<|zD 8<|jcH (hi:=(i:Int)) (show bI _ _ _ _ _ from ⟨eC,AO,AN,ek,rfl,C5,yI,yH⟩) (by omega) (fun v18 aqx=>?_)
 obtain⟨alH,awS,awO,alG,rfl,awQ,awR,awP⟩:=aqx
 refine zD 1<|jp (vs:=[.slice alH ((((cs).take (i:Int).toNat)).length) alG,.func (.func 191) ⟨[]⟩ ⟨[zP b5]⟩]) [0] [(b5,.cells ⟨[.string x8.name,zI x8.under]⟩ 130 (0,0))] (fun aA hs hZ=>ahS (x:=x8) ((show bI _ _ _ _ _ from ⟨alH,awS,awO,alG,rfl,awQ,awR,awP⟩).up hs) (by first|omega| (simp only[List.length_set,List.length_append,List.length_cons,List.length_nil];omega)) hZ.head) ?_
 refine zD 2<|js 15 (decide (cQ (Dv x8) ((cs).take (i:Int).toNat) 0≥0)) (fun h1=>?_) (fun h1=>?_)
 ·
  exfalso;have:=of_decide_eq_true h1;omega
 refine jd 7 [0]<|ja ((cs.length:Int)-1) (by omega)<|jp (vs:=[zI x8.under,zI (-1),zI ((cs.length:Int)-1)]) [] [] (fun aA hs hZ=>iI)<|zD 3<|js 21 (!(iH x8.under (-1) ((cs.length:Int)-1))) (fun h2=>?_) (fun h2=>?_)
 ·
  try simp only[zB] at h2
  exfalso;simp only[iH,Bool.and_eq_false_iff,decide_eq_false_iff_not] at h2;omega
 try simp only[zB] at h2
 refine jd 9 [0]<|zJ 29 (x8.under≥(i:Int)) (fun h3=>?_) fun h3=>?_
 ·
  exfalso;omega
 refine zD 7<|aE q0 (zI 0) [] [] [] (Sub.refl _) ⟨_,_,rfl,rfl,rfl,rfl⟩
theorem av8{hv:List bp}{ro:Nat→Option Obj}(hR:jz ro vc vh cs hv hd)(oe:dD dq hv hd)(hT:kX cs hd)(hi:i <hv.length):dz zT 156 [.agg ⟨[vc,vh]⟩,zI (i:Int)] ro (zI 0):=by
 obtain⟨hc,hh,cX⟩:=id hR
 obtain⟨eC,AO,AN,ek,rfl,C5,yI,yH⟩:=hc
 obtain⟨dJ,uK,uJ,dr,rfl,wZ,qB,qA⟩:=hh
 have Cq:=hT.nc
 have hnh:=hT.nh
 have hlen:=oe.len
 refine bA au [] [] bn<|zD 2<|jn fun b2=>jd 9 [0,0] ?_
 obtain⟨fC,eA⟩:=zG hv i
 refine ij dr 4 qB eA<|jl 0 (qA _ _ eA)<|aN 7 fun CN CZ AQ=>jn fun b6=>bC AQ [1]<|zD 1<|aN 9 fun CM CY BG=>jsx 0 b6 0 [.string ByteArray.empty,zI 0,zI 0,zS] [.string fC.word,zI fC.cls,zI fC.nK,fC.dQ] 133 (mi cX _ (List.mem_of_getElem? eA)) rfl<|eO BG<|zD 4 ?_
 obtain⟨DG,ayt,aqD⟩:=cX.get eA
 obtain⟨fp,rh,q9,eJ,hqe,tq,k8,me⟩:=aqD.2.2.2
 have aNe:=(hT.zx _ _ ayt).1
 have hsh:=aag (hT.zx _ _ ayt).2 aqD
 obtain⟨bV,oB,G4,kD,hs5⟩:=hsh
 have hwb:yU fC.word=true:=by rw[aqD.1];exact aNe
 have hcn:cQ (YW fC) (hv.take (i:Int).toNat) 0 <0:=arT hT oe eA
 have htk:(hv.take (i:Int).toNat).length≤hv.length:=by rw[List.length_take];omega
 refine jmw 0 [.b b6 (.cells ⟨[.string fC.word,zI fC.cls,zI fC.nK,.slice fp DG.dQ.length eJ]⟩ 133 (0,0))] (L:=[(b6,.cells ⟨[.string fC.word,zI fC.cls,zI fC.nK,fC.dQ]⟩ 133 (0,0))]) (by rw[hqe];rfl) ?_
 refine jd 3 [0]<|jp (vs:=[.string fC.word]) [] [] (fun aA hs hZ=>(ZV hwb))<|zD 8<|jcH (hi:=(i:Int)) (show bI _ _ _ _ _ from ⟨dJ,uK,uJ,dr,rfl,wZ,qB,qA⟩) (by omega) (fun v24 aNx=>?_)
 obtain⟨alF,awN,awJ,alE,rfl,awL,awM,awK⟩:=aNx
 refine zD 1<|jp (vs:=[.slice alF ((((hv).take (i:Int).toNat)).length) alE,.func (.func 194) ⟨[]⟩ ⟨[zP b6]⟩]) [0] [(b6,.cells ⟨[.string fC.word,zI fC.cls,zI fC.nK,.slice fp DG.dQ.length eJ]⟩ 133 (0,0))] (fun aA hs hZ=>an8 (x:=fC) ((show bI _ _ _ _ _ from ⟨alF,awN,awJ,alE,rfl,awL,awM,awK⟩).up hs) (by first|omega| (simp only[List.length_set,List.length_append,List.length_cons,List.length_nil];omega)) (by rw[hqe];exact hZ.head)) ?_
 refine zD 2<|js 21 (decide (cQ (YW fC) ((hv).take (i:Int).toNat) 0≥0)) (fun h3=>?_) (fun h3=>?_)
 ·
  exfalso;have:=of_decide_eq_true h3;omega
 refine zD 6<|js 2 (decide ((i:Int)>0)) (fun h4=>?_) (fun h4=>?_)
 ·
  have xC:=h4
  replace xC:=of_decide_eq_true xC
  refine jd 4 [0]<|ja ((i:Int)-1) (by omega) ?_
  obtain⟨x36,yg⟩:=zG hv (((i:Int)-1).toNat)
  refine Mj ((i:Int)-1) dr 4 qB yg (by omega)<|zD 1<|jl 0 (qA _ _ yg)<|zD 4<|js 27 (strLt fC.word x36.word) (fun h5=>?_) (fun h5=>?_)
  ·
   exfalso;rw[aAd hT oe (by omega) eA yg] at h5;cases h5
  refine jd 9 [0,1]<|ja ((cs.length:Int)-1) (by omega)<|jp (vs:=[zI fC.cls,zI (-1),zI ((cs.length:Int)-1)]) [] [] (fun aA hs hZ=>iI)<|zD 3<|js 41 (!(iH fC.cls (-1) ((cs.length:Int)-1))) (fun h6=>?_) (fun h6=>?_)
  ·
   try simp only[zB] at h6
   exfalso;simp only[iH,Bool.and_eq_false_iff,decide_eq_false_iff_not] at h6;omega
  try simp only[zB] at h6
  refine jd 6 [0]<|ja ((hv.length:Int)-1) (by omega)<|jp (vs:=[zI fC.nK,zI (-1),zI ((hv.length:Int)-1)]) [] [] (fun aA hs hZ=>iI)<|zD 3<|js 41 (!(iH fC.nK (-1) ((hv.length:Int)-1))) (fun h7=>?_) (fun h7=>?_)
  ·
   try simp only[zB] at h7
   exfalso;simp only[iH,Bool.and_eq_false_iff,decide_eq_false_iff_not] at h7;omega
  try simp only[zB] at h7
  refine jd 9 [0]<|zJ 57 (fC.nK=(i:Int)) (fun h8=>?_) fun h8=>?_
  ·
   exfalso;omega
  refine jd 11 [0]<|ez [1,1,1,0,1,0,0] [] (fun(zz:Nat)=>[(1,zI (i:Int)),(5,.slice dJ hv.length dr),(6,zP b6),(63,.slice fp DG.dQ.length eJ),(64,zI (DG.dQ.length:Int)),(65,zI (zz:Int))]) (fun(zz:Nat)=>[.b b6 (.cells ⟨[.string fC.word,zI fC.cls,zI fC.nK,.slice fp DG.dQ.length eJ]⟩ 133 (0,0))]) (fun(zz:Nat)=>zz≤DG.dQ.length) (fun(zz:Nat)=>DG.dQ.length-zz) 0 (by omega) [0] ?_
  rintro k hI K3 YZ rest
  refine zD 5<|zJ 66 ((k:Int) <(DG.dQ.length:Int)) (fun h9=>?_) fun h9=>?_
  ·
   refine zD 7 ?_
   obtain⟨x68,KB⟩:=zG DG.dQ k
   refine ij eJ 1 k8 KB<|jl 0 (me _ _ KB)<|zD 5 ?_
   have aQc:=G4.2.2 _ (List.mem_of_getElem? KB)
   refine zD 4<|ja ((hv.length:Int)-1) (by omega)<|jp (vs:=[zI x68,zI 0,zI ((hv.length:Int)-1)]) [] [] (fun aA hs hZ=>iI)<|zD 3<|js 70 (!(iH x68 0 ((hv.length:Int)-1))) (fun Qb=>?_) (fun Qb=>?_)
   ·
    try simp only[zB] at Qb
    exfalso;simp only[iH,Bool.and_eq_false_iff,decide_eq_false_iff_not] at Qb;omega
   try simp only[zB] at Qb
   refine zD 8<|zJ 77 (x68=(i:Int)) (fun OT=>?_) fun OT=>?_
   ·
    exfalso;omega
   refine zD 6<|js 84 (decide ((k:Int)>0)) (fun Cu=>?_) (fun Cu=>?_)
   ·
    have Gd:=Cu
    replace Gd:=of_decide_eq_true Gd
    refine jd 4 [0]<|ja ((k:Int)-1) (by omega) ?_
    obtain⟨x90,RE⟩:=zG DG.dQ (((k:Int)-1).toNat)
    refine Mj ((k:Int)-1) eJ 1 k8 RE (by omega)<|jl 0 (me _ _ RE)<|zD 4<|zJ 81 (x68≤x90) (fun xD=>?_) fun xD=>?_
    ·
     exfalso;have:=pG G4.2.1 (show ((k:Int)-1).toNat <k by omega) RE KB;omega
    refine zD 3<|ja ((k:Int)+1) (by omega)<|zD 2<|bO YZ (k+1) (by omega) (by omega) [0] (Sub.refl _)
   have Gd:=Cu
   replace Gd:=of_decide_eq_false Gd
   refine zD 14<|ja ((k:Int)+1) (by omega)<|zD 2<|bO YZ (k+1) (by omega) (by omega) [0] (Sub.refl _)
  refine jd 9 [0]<|js 98 (!decide (fC.nK=(-1))) (fun OS=>?_) (fun OS=>?_)
  ·
   have Gb:=OS
   replace Gb:=of_decide_eq_false (by simpa using Gb)
   refine jd 4 [0]<|js 102 (!decide (fC.cls=(-1))) (fun Ga=>?_) (fun Ga=>?_)
   ·
    have vw:=Ga
    replace vw:=of_decide_eq_false (by simpa using vw)
    refine zD 29 ?_
    exfalso;omega
   have vw:=Ga
   replace vw:=of_decide_eq_true (by simpa using vw)
   refine jd 7 [0]<|js 109 (decide ((DG.dQ.length:Int)>0)) (fun SE=>?_) (fun SE=>?_)
   ·
    have aeI:=SE
    replace aeI:=of_decide_eq_true aeI
    refine zD 22 ?_
    exfalso;omega
   have aeI:=SE
   replace aeI:=of_decide_eq_false aeI
   refine jd 4 [0]<|js 113 (decide (fC.nK=(-1))) (fun h17=>?_) (fun h17=>?_)
   ·
    have F8:=h17
    replace F8:=of_decide_eq_true F8
    refine jd 5 [0]<|js 118 (decide (fC.cls=(-1))) (fun h18=>?_) (fun h18=>?_)
    ·
     have aeG:=h18
     replace aeG:=of_decide_eq_true aeG
     refine jd 7 [0]<|zJ 124 ((DG.dQ.length:Int)=0) (fun h19=>?_) fun h19=>?_
     ·
      exfalso;(try simp only[Bool.or_eq_true,Bool.and_eq_true,decide_eq_true_eq,Bool.not_eq_true',decide_eq_false_iff_not] at h19);omega
     refine zD 7<|aE q0 (zI 0) [] [] [] (Sub.refl _) ⟨_,_,rfl,rfl,rfl,rfl⟩
    have aeG:=h18
    replace aeG:=of_decide_eq_false aeG
    refine zD 14<|aE q0 (zI 0) [] [] [] (Sub.refl _) ⟨_,_,rfl,rfl,rfl,rfl⟩
   have F8:=h17
   replace F8:=of_decide_eq_false F8
   refine zD 19<|aE q0 (zI 0) [] [] [] (Sub.refl _) ⟨_,_,rfl,rfl,rfl,rfl⟩
  have Gb:=OS
  replace Gb:=of_decide_eq_true (by simpa using Gb)
  refine jd 15 [0]<|js 113 (decide (fC.nK=(-1))) (fun h20=>?_) (fun h20=>?_)
  ·
   have aeF:=h20
   replace aeF:=of_decide_eq_true aeF
   refine jd 5 [0]<|js 118 (decide (fC.cls=(-1))) (fun h21=>?_) (fun h21=>?_)
   ·
    have aeE:=h21
    replace aeE:=of_decide_eq_true aeE
    refine jd 7 [0]<|zJ 124 ((DG.dQ.length:Int)=0) (fun I6=>?_) fun I6=>?_
    ·
     exfalso;(try simp only[Bool.or_eq_true,Bool.and_eq_true,decide_eq_true_eq,Bool.not_eq_true',decide_eq_false_iff_not] at I6);omega
    refine zD 7<|aE q0 (zI 0) [] [] [] (Sub.refl _) ⟨_,_,rfl,rfl,rfl,rfl⟩
   have aeE:=h21
   replace aeE:=of_decide_eq_false aeE
   refine zD 14<|aE q0 (zI 0) [] [] [] (Sub.refl _) ⟨_,_,rfl,rfl,rfl,rfl⟩
  have aeF:=h20
  replace aeF:=of_decide_eq_false aeF
  refine zD 19<|aE q0 (zI 0) [] [] [] (Sub.refl _) ⟨_,_,rfl,rfl,rfl,rfl⟩
 have xC:=h4
 replace xC:=of_decide_eq_false xC
 refine jd 21 [0,1]<|ja ((cs.length:Int)-1) (by omega)<|jp (vs:=[zI fC.cls,zI (-1),zI ((cs.length:Int)-1)]) [] [] (fun aA hs hZ=>iI)<|zD 3<|js 41 (!(iH fC.cls (-1) ((cs.length:Int)-1))) (fun Eb=>?_) (fun Eb=>?_)
 ·
  try simp only[zB] at Eb
  exfalso;simp only[iH,Bool.and_eq_false_iff,decide_eq_false_iff_not] at Eb;omega
 try simp only[zB] at Eb
 refine jd 6 [0]<|ja ((hv.length:Int)-1) (by omega)<|jp (vs:=[zI fC.nK,zI (-1),zI ((hv.length:Int)-1)]) [] [] (fun aA hs hZ=>iI)<|zD 3<|js 41 (!(iH fC.nK (-1) ((hv.length:Int)-1))) (fun h24=>?_) (fun h24=>?_)
 ·
  try simp only[zB] at h24
  exfalso;simp only[iH,Bool.and_eq_false_iff,decide_eq_false_iff_not] at h24;omega
 try simp only[zB] at h24
 refine jd 9 [0]<|zJ 57 (fC.nK=(i:Int)) (fun h25=>?_) fun h25=>?_
 ·
  exfalso;omega
 refine jd 11 [0]<|ez [1,1,1,0,1,0,0] [] (fun(zz:Nat)=>[(1,zI (i:Int)),(5,.slice dJ hv.length dr),(6,zP b6),(63,.slice fp DG.dQ.length eJ),(64,zI (DG.dQ.length:Int)),(65,zI (zz:Int))]) (fun(zz:Nat)=>[.b b6 (.cells ⟨[.string fC.word,zI fC.cls,zI fC.nK,.slice fp DG.dQ.length eJ]⟩ 133 (0,0))]) (fun(zz:Nat)=>zz≤DG.dQ.length) (fun(zz:Nat)=>DG.dQ.length-zz) 0 (by omega) [0] ?_
 rintro k hI K4 hK4 rest
 refine zD 5<|zJ 66 ((k:Int) <(DG.dQ.length:Int)) (fun X3=>?_) fun X3=>?_
 ·
  refine zD 7 ?_
  obtain⟨x68,KB⟩:=zG DG.dQ k
  refine ij eJ 1 k8 KB<|jl 0 (me _ _ KB)<|zD 5 ?_
  have aQc:=G4.2.2 _ (List.mem_of_getElem? KB)
  refine zD 4<|ja ((hv.length:Int)-1) (by omega)<|jp (vs:=[zI x68,zI 0,zI ((hv.length:Int)-1)]) [] [] (fun aA hs hZ=>iI)<|zD 3<|js 70 (!(iH x68 0 ((hv.length:Int)-1))) (fun h27=>?_) (fun h27=>?_)
  ·
   try simp only[zB] at h27
   exfalso;simp only[iH,Bool.and_eq_false_iff,decide_eq_false_iff_not] at h27;omega
  try simp only[zB] at h27
  refine zD 8<|zJ 77 (x68=(i:Int)) (fun XZ=>?_) fun XZ=>?_
  ·
   exfalso;omega
  refine zD 6<|js 84 (decide ((k:Int)>0)) (fun h29=>?_) (fun h29=>?_)
  ·
   have aez:=h29
   replace aez:=of_decide_eq_true aez
   refine jd 4 [0]<|ja ((k:Int)-1) (by omega) ?_
   obtain⟨x90,RE⟩:=zG DG.dQ (((k:Int)-1).toNat)
   refine Mj ((k:Int)-1) eJ 1 k8 RE (by omega)<|jl 0 (me _ _ RE)<|zD 4<|zJ 81 (x68≤x90) (fun h30=>?_) fun h30=>?_
   ·
    exfalso;have:=pG G4.2.1 (show ((k:Int)-1).toNat <k by omega) RE KB;omega
   refine zD 3<|ja ((k:Int)+1) (by omega)<|zD 2<|bO hK4 (k+1) (by omega) (by omega) [0] (Sub.refl _)
  have aez:=h29
  replace aez:=of_decide_eq_false aez
  refine zD 14<|ja ((k:Int)+1) (by omega)<|zD 2<|bO hK4 (k+1) (by omega) (by omega) [0] (Sub.refl _)
 refine jd 9 [0]<|js 98 (!decide (fC.nK=(-1))) (fun h31=>?_) (fun h31=>?_)
 ·
  have aex:=h31
  replace aex:=of_decide_eq_false (by simpa using aex)
  refine jd 4 [0]<|js 102 (!decide (fC.cls=(-1))) (fun h32=>?_) (fun h32=>?_)
  ·
   have aew:=h32
   replace aew:=of_decide_eq_false (by simpa using aew)
   refine zD 29 ?_
   exfalso;omega
  have aew:=h32
  replace aew:=of_decide_eq_true (by simpa using aew)
  refine jd 7 [0]<|js 109 (decide ((DG.dQ.length:Int)>0)) (fun h33=>?_) (fun h33=>?_)
  ·
   have aev:=h33
   replace aev:=of_decide_eq_true aev
   refine zD 22 ?_
   exfalso;omega
  have aev:=h33
  replace aev:=of_decide_eq_false aev
  refine jd 4 [0]<|js 113 (decide (fC.nK=(-1))) (fun h34=>?_) (fun h34=>?_)
  ·
   have aeu:=h34
   replace aeu:=of_decide_eq_true aeu
   refine jd 5 [0]<|js 118 (decide (fC.cls=(-1))) (fun h35=>?_) (fun h35=>?_)
   ·
    have aet:=h35
    replace aet:=of_decide_eq_true aet
    refine jd 7 [0]<|zJ 124 ((DG.dQ.length:Int)=0) (fun h36=>?_) fun h36=>?_
    ·
     exfalso;(try simp only[Bool.or_eq_true,Bool.and_eq_true,decide_eq_true_eq,Bool.not_eq_true',decide_eq_false_iff_not] at h36);omega
    refine zD 7<|aE q0 (zI 0) [] [] [] (Sub.refl _) ⟨_,_,rfl,rfl,rfl,rfl⟩
   have aet:=h35
   replace aet:=of_decide_eq_false aet
   refine zD 14<|aE q0 (zI 0) [] [] [] (Sub.refl _) ⟨_,_,rfl,rfl,rfl,rfl⟩
  have aeu:=h34
  replace aeu:=of_decide_eq_false aeu
  refine zD 19<|aE q0 (zI 0) [] [] [] (Sub.refl _) ⟨_,_,rfl,rfl,rfl,rfl⟩
 have aex:=h31
 replace aex:=of_decide_eq_true (by simpa using aex)
 refine jd 15 [0]<|js 113 (decide (fC.nK=(-1))) (fun h37=>?_) (fun h37=>?_)
 ·
  have aes:=h37
  replace aes:=of_decide_eq_true aes
  refine jd 5 [0]<|js 118 (decide (fC.cls=(-1))) (fun h38=>?_) (fun h38=>?_)
  ·
   have aer:=h38
   replace aer:=of_decide_eq_true aer
   refine jd 7 [0]<|zJ 124 ((DG.dQ.length:Int)=0) (fun Y0=>?_) fun Y0=>?_
   ·
    exfalso;(try simp only[Bool.or_eq_true,Bool.and_eq_true,decide_eq_true_eq,Bool.not_eq_true',decide_eq_false_iff_not] at Y0);omega
   refine zD 7<|aE q0 (zI 0) [] [] [] (Sub.refl _) ⟨_,_,rfl,rfl,rfl,rfl⟩
  have aer:=h38
  replace aer:=of_decide_eq_false aer
  refine zD 14<|aE q0 (zI 0) [] [] [] (Sub.refl _) ⟨_,_,rfl,rfl,rfl,rfl⟩
 have aes:=h37
 replace aes:=of_decide_eq_false aes
 refine zD 19<|aE q0 (zI 0) [] [] [] (Sub.refl _) ⟨_,_,rfl,rfl,rfl,rfl⟩
theorem TU{hv:List bp}{ro:Nat→Option Obj}(hR:jz ro vc vh cs hv hd)(oe:dD dq hv hd)(hT:kX cs hd):dz zT 112 [.agg ⟨[vc,vh]⟩] ro (zI 0):=by
 obtain⟨hc,hh,cX⟩:=id hR
 obtain⟨eC,AO,AN,ek,rfl,C5,yI,yH⟩:=hc
 obtain⟨dJ,uK,uJ,dr,rfl,wZ,qB,qA⟩:=hh
 have Cq:=hT.nc
 have hnh:=hT.nh
 have hlen:=oe.len
 refine bA au [] [] bn<|zD 2<|jn fun b1=>jd 10 [0]<|jj 5 [(1,zP b1),(2,zI 0),(16,.bool ((decide ((cs.length:Int)>6))||(decide ((hv.length:Int)>6))))] (fun gD=>?_) (fun hj=>?_)
 rotate_left
 refine js 11 (decide ((cs.length:Int)>6)) (fun h1=>?_) (fun h1=>?_)
 ·
  have fS:=h1
  replace fS:=of_decide_eq_true fS
  refine zD 5<|jw 16 (.bool ((decide ((cs.length:Int)>6))||(decide ((hv.length:Int)>6)))) (w:= .bool true) (by rw[h1]<;>rfl) ?_
  exact hj _ (by kernel_rfl) (by kernel_rfl)
 ·
  have fS:=h1
  replace fS:=of_decide_eq_false fS
  refine jd 5 [0]<|jw 16 (.bool ((decide ((cs.length:Int)>6))||(decide ((hv.length:Int)>6)))) (w:= .bool (decide ((hv.length:Int)>6))) (by rw[h1]<;>rfl) ?_
  exact hj _ (by kernel_rfl) (by kernel_rfl)
 refine zD 1<|js 16 ((decide ((cs.length:Int)>6))||(decide ((hv.length:Int)>6))) (fun h2=>?_) (fun h2=>?_)
 ·
  try simp only[zB] at h2
  exfalso;omega
 try simp only[zB] at h2
 refine jd 11 [0]<|ez [1,1,0,1,0,0] [] (fun(zz:Nat)=>[(1,zP b1),(19,zI (cs.length:Int)),(20,zI (zz:Int))]) (fun(zz:Nat)=>[.b b1 (.cells ⟨[.slice eC cs.length ek,.slice dJ hv.length dr]⟩ 33 (0,0))]) (fun(zz:Nat)=>zz≤cs.length) (fun(zz:Nat)=>cs.length-zz) 0 (by omega) [0] ?_
 rintro k hI K1 bM rest
 refine zD 5<|zJ 21 ((k:Int) <(cs.length:Int)) (fun h3=>?_) fun h3=>?_
 ·
  refine jd 14 [0]<|jp (vs:=[.slice eC cs.length ek,zI (k:Int)]) [] [] (fun aA hs hZ=>aoe ((show bI _ _ _ _ _ from ⟨eC,AO,AN,ek,rfl,C5,yI,yH⟩).up hs) hT (by omega))<|zD 10<|ja ((k:Int)+1) (by omega)<|zD 2<|bO bM (k+1) (by omega) (by omega) [0] (Sub.refl _)
 refine jd 11 [0]<|ez [1,1,1,0,1,0,0] [] (fun(zz:Nat)=>[(1,zP b1),(33,zI (hv.length:Int)),(34,zI (zz:Int))]) (fun(zz:Nat)=>[.b b1 (.cells ⟨[.slice eC cs.length ek,.slice dJ hv.length dr]⟩ 33 (0,0))]) (fun(zz:Nat)=>zz≤hv.length) (fun(zz:Nat)=>hv.length-zz) 0 (by omega) [0] ?_
 rintro j hJ K2 mo rest
 refine zD 5<|zJ 35 ((j:Int) <(hv.length:Int)) (fun h4=>?_) fun h4=>?_
 ·
  refine jd 13 [0]<|jp (vs:=[.agg ⟨[.slice eC cs.length ek,.slice dJ hv.length dr]⟩,zI (j:Int)]) [] [] (fun aA hs hZ=>(av8 (hR.up hs) oe hT (by omega)))<|zD 10<|ja ((j:Int)+1) (by omega)<|zD 2<|bO mo (j+1) (by omega) (by omega) [0] (Sub.refl _)
 refine zD 7<|aE q0 (zI 0) [] [] [] (Sub.refl _) ⟨_,_,rfl,rfl,rfl,rfl⟩
theorem aof{hv:List bp}{ro:Nat→Option Obj}(hR:jz ro vc vh cs hv hd)(oe:dD dq hv hd)(hT:kX cs hd):dz zT 86 [.agg ⟨[vc,vh]⟩] ro (zI 0):=by
 obtain⟨hc,hh,cX⟩:=id hR
 obtain⟨eC,AO,AN,ek,rfl,C5,yI,yH⟩:=hc
 obtain⟨dJ,uK,uJ,dr,rfl,wZ,qB,qA⟩:=hh
 have Cq:=hT.nc
 have hnh:=hT.nh
 have hlen:=oe.len
 refine bA au [] [] bn<|zD 2<|jn fun b1=>jd 5 [0]<|jp (vs:=[.agg ⟨[.slice eC cs.length ek,.slice dJ hv.length dr]⟩]) [] [] (fun aA hs hZ=>(TU (hR.up hs) oe hT))<|zD 3<|aE q0 (zI 0) [] [] [] (Sub.refl _) ⟨_,_,rfl,rfl,rfl,rfl⟩
def HQ(a b:ByteArray):Int:=bif strLt a b then-1 else bif !(strLt a b||cH a b) then 1 else 0
def Ln:List ByteArray→List ByteArray→Int
 | [],[]=>0
 | [],_::_=> -1
 |_::_,[]=>1
 |x::xs,y::ys=>if HQ x y=0 then Ln xs ys else HQ x y
theorem VL{x y:ByteArray}(hx:xs[k]?=some x) (hy:ys[k]?=some y):Ln (xs.drop k) (ys.drop k)=if HQ x y=0 then Ln (xs.drop (k+1)) (ys.drop (k+1)) else HQ x y:=by rw[fN hx,fN hy];rfl
theorem afD{x:ByteArray}(hx:xs[k]?=some x) (hy:¬k <ys.length):Ln (xs.drop k) (ys.drop k)=1:=by rw[fN hx,eF hy];rfl
theorem Pq(hx:¬k <xs.length):Ln (xs.drop k) (ys.drop k)=if k <ys.length then-1 else 0:=by
 rw[eF hx]
 split
 ·rename_i h
  rw[List.drop_eq_getElem_cons h];rfl
 rename_i h
 rw[eF h];rfl
def r5(s p:ByteArray):Bool:=decide (s.size≥p.size)&&cH (s.extract 0 p.size) p
structure aj where
 h:Int
 n:Int
 l:Int
abbrev cw(x:aj):List Value:=[zI x.h,zI x.n,zI x.l]
def oF(h n l:Int)(y:aj):Bool:=h==y.h&&(n==y.n&&(l==y.l&&true)&&true)
theorem aD3{a:ByteArray}{ro:Nat→Option Obj}:dz zT 265 [.string a] ro (.bool false):=by
 refine bA au [] [] bn<|zD 12<|aE q0 (.bool (!(cH a a))) [] [] [] (Sub.refl _) ⟨_,_,rfl,rfl,by rw[AZ.2 rfl];rfl,rfl⟩
theorem aSf{a b:ByteArray}{ro:Nat→Option Obj}:dz zT 241 [.string a,.string b] ro (zI (HQ a b)):=by
 refine bA au [] [] bn<|zD 7<|jp (vs:=[.string a]) [] [] (fun aA hs hZ=>aD3)<|zD 5<|jp (vs:=[.string b]) [] [] (fun aA hs hZ=>aD3)<|zD 23<|js 16 (strLt a b) (fun h1=>?_) (fun h1=>?_)
 ·
  refine zD 6<|aE q0 (zI (-1)) [] [] [] (Sub.refl _) ⟨_,_,rfl,rfl,by simp_all[HQ],rfl⟩
 refine zD 9<|js 19 (!(strLt a b||cH a b)) (fun h2=>?_) (fun h2=>?_)
 ·
  try simp only[zB] at h2
  refine zD 6<|aE q0 (zI 1) [] [] [] (Sub.refl _) ⟨_,_,rfl,rfl,by simp_all[HQ],rfl⟩
 try simp only[zB] at h2
 refine zD 7<|aE q0 (zI 0) [] [] [] (Sub.refl _) ⟨_,_,rfl,rfl,by simp_all[HQ],rfl⟩
theorem aKE{v w:Value}{ro:Nat→Option Obj}(hv:bI ro v 1 oU xs)(hw:bI ro w 1 oU ys)(hx:xs.length≤1000)(hy:ys.length≤1000):dz zT 220 [v,w] ro (zI (Ln xs ys)):=by
 obtain⟨Nd,qvb,qvo,C2,rfl,qvk,Q0,QZ⟩:=hv
 obtain⟨QX,qwb,qwo,JR,rfl,qwk,qwh,qwl⟩:=hw
 refine bA au [] [] bn<|zD 12<|ez [1,0,1,0,0] [] (fun(zz:Nat)=>[(0,.slice Nd xs.length C2),(1,.slice QX ys.length JR),(9,.slice Nd xs.length C2),(10,zI (xs.length:Int)),(11,zI (zz:Int))]) (fun(zz:Nat)=>[]) (fun(zz:Nat)=>(zz≤xs.length∧zz≤ys.length)∧Ln xs ys=Ln (xs.drop zz) (ys.drop zz)) (fun(zz:Nat)=>xs.length-zz) 0 ⟨by omega,rfl⟩ [] ?_
 rintro k hI K1 bM rest
 refine zD 5<|zJ 12 ((k:Int) <(xs.length:Int)) (fun h1=>?_) fun h1=>?_
 ·
  refine zD 7 ?_
  obtain⟨fC,eA⟩:=zG xs k
  refine ij C2 1 Q0 eA<|jl 0 (QZ _ _ eA)<|zD 11<|zJ 19 ((k:Int)≥(ys.length:Int)) (fun h2=>?_) fun h2=>?_
  ·
   refine zD 6<|aE q0 (zI 1) [] [] [] (Sub.refl _) ⟨_,_,rfl,rfl,by rw[hI.2,afD eA (by omega)],rfl⟩
  refine zD 6 ?_
  obtain⟨rG,tI⟩:=zG ys k
  refine ij JR 1 qwh tI<|jl 0 (qwl _ _ tI)<|zD 6<|jp (vs:=[.string fC,.string rG]) [] [] (fun aA hs hZ=>aSf)<|zD 7<|js 28 (!decide ((HQ fC rG)=0)) (fun h3=>?_) (fun h3=>?_)
  ·
   replace h3:=of_decide_eq_false (by simpa using h3)
   refine zD 7<|aE q0 (zI (HQ fC rG)) [] [] [] (Sub.refl _) ⟨_,_,rfl,rfl,by rw[hI.2,VL eA tI,if_neg (by omega)],rfl⟩
  replace h3:=of_decide_eq_true (by simpa using h3)
  refine zD 3<|ja ((k:Int)+1) (by omega)<|zD 2<|bO bM (k+1) ⟨by omega,by rw[hI.2,VL eA tI,if_pos (by omega)]⟩ (by omega) [] (Sub.refl _)
 refine zD 11<|zJ 35 ((xs.length:Int) <(ys.length:Int)) (fun h4=>?_) fun h4=>?_
 ·
  refine zD 6<|aE q0 (zI (-1)) [] [] [] (Sub.refl _) ⟨_,_,rfl,rfl,by rw[hI.2,Pq (by omega),if_pos (by omega)],rfl⟩
 refine zD 7<|aE q0 (zI 0) [] [] [] (Sub.refl _) ⟨_,_,rfl,rfl,by rw[hI.2,Pq (by omega),if_neg (by omega)],rfl⟩
theorem XS{a b:ByteArray}{ro:Nat→Option Obj}(hn:a.size≤1000∧b.size≤1000):dz zT 290 [.string a,.string b] ro (.bool (r5 a b)):=by
 refine bA au [] [] bn<|zD 12<|js 10 (decide ((a.size:Int)≥(b.size:Int))) (fun h1=>?_) (fun h1=>?_)
 ·
  have fS:=h1
  replace fS:=of_decide_eq_true fS
  refine zD 3<|jtH (b:=a) (hi:=(b.size:Int)) (by omega)<|zD 6<|aE q0 (.bool (cH (a.extract 0 (b.size:Int).toNat) b)) [] [] [] (Sub.refl _) ⟨_,_,rfl,rfl,by simp_all[r5]<;>(intro;omega),rfl⟩
 have fS:=h1
 replace fS:=of_decide_eq_false fS
 refine zD 10<|aE q0 (.bool false) [] [] [] (Sub.refl _) ⟨_,_,rfl,rfl,by simp_all[r5]<;>(intro;omega),rfl⟩
theorem XT{a b:ByteArray}{ro:Nat→Option Obj}(hn:a.size≤1000∧b.size≤1000):dz zT 282 [.string a,.string b] ro (.bool (r5 a b)):=by
 refine bA au [] [] bn<|zD 8<|jp (vs:=[.string a,.string b]) [] [] (fun aA hs hZ=>(XS (by omega)))<|zD 3<|aE q0 (.bool (r5 a b)) [] [] [] (Sub.refl _) ⟨_,_,rfl,rfl,rfl,rfl⟩
theorem acd{v:Value}{ps:List aj}{h l:Int}{ro:Nat→Option Obj}(hp:bI ro v 3 cw ps)(hn:ps.length≤1000):dz zT 93 [v,.agg ⟨[zI h,zI n,zI l]⟩] ro (zI (cQ (oF h n l) ps 0)):=by
 obtain⟨PS,qpb,qpo,It,rfl,qpk,WS,WR⟩:=hp
 refine bA au [] [] bn<|zD 2<|jn fun b3=>zD 10<|ez [1,0,1,0,0] [] (fun(zz:Nat)=>[(0,.slice PS ps.length It),(3,zP b3),(7,zI (ps.length:Int)),(8,zI (zz:Int))]) (fun(zz:Nat)=>[.b b3 (.cells ⟨[zI h,zI n,zI l]⟩ 144 (0,0))]) (fun(zz:Nat)=>zz≤ps.length∧cQ (oF h n l) ps 0=cQ (oF h n l) (ps.drop zz) zz) (fun(zz:Nat)=>ps.length-zz) 0 ⟨by omega,rfl⟩ [0] ?_
 rintro k hI K1 bM rest
 refine zD 5<|zJ 9 ((k:Int) <(ps.length:Int)) (fun h1=>?_) fun h1=>?_
 ·
  refine jd 14 [0] ?_
  obtain⟨fC,eA⟩:=zG ps k
  refine ij It 3 WS eA<|jl 0 (WR _ _ eA)<|jeq axL (as1 h n l fC.h fC.n fC.l)<|zD 1<|js 16 (h==fC.h&&(n==fC.n&&(l==fC.l&&true)&&true)) (fun h2=>?_) (fun h2=>?_)
  ·
   refine zD 7<|aE q0 (zI (k:Int)) [] [] [] (Sub.refl _) ⟨_,_,rfl,rfl,by rw[hI.2,jm eA,show oF h n l fC=true from (by assumption)];rfl,rfl⟩
  refine zD 3<|ja ((k:Int)+1) (by omega)<|zD 2<|bO bM (k+1) ⟨by omega,by rw[hI.2,jm eA,show oF h n l fC=false from (by assumption)];rfl⟩ (by omega) [0] (Sub.refl _)
 refine zD 7<|aE q0 (zI (-1)) [] [] [] (Sub.refl _) ⟨_,_,rfl,rfl,by rw[hI.2,p8 (by omega)],rfl⟩
theorem IP{v:Value}{ps:List aj}{h l:Int}{ro:Nat→Option Obj}(hp:bI ro v 3 cw ps)(hn:ps.length≤1000):dz zT 67 [v,.agg ⟨[zI h,zI n,zI l]⟩] ro (.bool (decide (cQ (oF h n l) ps 0≥0))):=by
 obtain⟨PS,qpb,qpo,It,rfl,qpk,WS,WR⟩:=hp
 refine bA au [] [] bn<|zD 2<|jn fun b3=>jd 6 [0]<|jp (vs:=[.slice PS ps.length It,.agg ⟨[zI h,zI n,zI l]⟩]) [] [] (fun aA hs hZ=>acd ((show bI _ _ _ _ _ from ⟨PS,qpb,qpo,It,rfl,qpk,WS,WR⟩).up hs) (by first|omega| (simp only[List.length_set,List.length_append,List.length_cons,List.length_nil];omega))) ?_
 refine zD 4<|aE q0 (.bool (decide ((cQ (oF h n l) ps 0)≥0))) [] [] [] (Sub.refl _) ⟨_,_,rfl,rfl,rfl,rfl⟩
theorem abm{v:Value}{ws:List ByteArray}{ro:Nat→Option Obj}(hv:bI ro v 1 oU ws)(hn:ws.length≤1000)(hW:∀w∈ws,(1≤w.size∧w.size≤6)∧Script w):dz zT 196 [v] ro (zI 0):=by
 obtain⟨Nd,qvb,qvo,C2,rfl,qvk,Q0,QZ⟩:=hv
 refine bA au [] [] bn<|zD 12<|ez [1,0,1,0,0] [] (fun(zz:Nat)=>[(6,.slice Nd ws.length C2),(7,zI (ws.length:Int)),(8,zI (zz:Int))]) (fun(zz:Nat)=>[]) (fun(zz:Nat)=>zz≤ws.length) (fun(zz:Nat)=>ws.length-zz) 0 (by omega) [] ?_
 rintro k hI K1 bM rest
 refine zD 5<|zJ 9 ((k:Int) <(ws.length:Int)) (fun h1=>?_) fun h1=>?_
 ·
  refine zD 6 ?_
  obtain⟨x10,rn⟩:=zG ws k
  refine ij C2 1 Q0 rn<|jl 0 (QZ _ _ rn)<|zD 5<|jp (vs:=[.string x10]) [] [] (fun aA hs hZ=>(Rj (hW _ (List.mem_of_getElem? rn)).1 (hW _ (List.mem_of_getElem? rn)).2))<|zD 10<|ja ((k:Int)+1) (by omega)<|zD 2<|bO bM (k+1) (by omega) (by omega) [] (Sub.refl _)
 refine zD 7<|aE q0 (zI 0) [] [] [] (Sub.refl _) ⟨_,_,rfl,rfl,rfl,rfl⟩
end Go.L
