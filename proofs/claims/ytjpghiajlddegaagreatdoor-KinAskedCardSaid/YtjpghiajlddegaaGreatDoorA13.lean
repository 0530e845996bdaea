/- Part 13 of the proof: a program logic, contracts, a theorem on goroutines. -/
import Derived.Test.YtjpghiajlddegaaGreatDoorA12
set_option maxRecDepth 100000
set_option linter.all false
namespace Go.L
open Go Go.Conc Go.Proofs
variable {hd:List cw} {cs:List bM} {l:List Value} {xs ys:List ByteArray} {b i k:Nat} {fs:List eR} {K:aT} {x:aI} {vp vc vh:Value} {n r:Int}
def hqw:ByteArray:=bs [72,81,87]
def kindOf(r:Int):Int:=if 97≤r∧r≤122 then 1 else if (65≤r∧r≤90)∧O3 hqw (UInt8.ofNat (IntKind.u8.wrap r).toNat) <0 then 2 else 0
theorem aE2:EF zT 291 Extern.BytealgIndexByte.indexByte:=⟨Tryz.f291,Tryz.func291,by kernel_rfl,by kernel_rfl,by kernel_rfl,by kernel_rfl⟩
theorem Yh{a:ByteArray}{b:Int}{ro:Nat→Option Obj}:dL zT 283 [.string a,.int .u8 b] ro (zI (O3 a (b).toNat.toUInt8)):=by
 refine bI av [] [] bB<|zD 8<|jib (a:=a) (b:=b) aE2<|zD 3<|aJ q0 (zI (O3 a (b).toNat.toUInt8)) [] [] [] (Sub.refl _) ⟨_,_,rfl,rfl,rfl,rfl⟩
theorem Yi{a:ByteArray}{b:Int}{ro:Nat→Option Obj}:dL zT 266 [.string a,.int .u8 b] ro (zI (O3 a (b).toNat.toUInt8)):=by
 refine bI av [] [] bB<|zD 8<|jp (vs:=[.string a,.int .u8 b]) [] [] (fun aE hs hZ=>Yh)<|zD 3<|aJ q0 (zI (O3 a (b).toNat.toUInt8)) [] [] [] (Sub.refl _) ⟨_,_,rfl,rfl,rfl,rfl⟩
theorem arD{a:ByteArray}{ro:Nat→Option Obj}(hr:0≤r∧r <128):dL zT 242 [.string a,.int .i32 r] ro (zI (O3 a (IntKind.u8.wrap r).toNat.toUInt8)):=by
 refine bI av [] [] bB<|zD 10<|jj 3 [(0,.string a),(1,.int .i32 r),(4,zI 0),(166,.bool ((decide (0≤r))&&(decide (r <128))))] (fun gJ=>?_) (fun hj=>?_)
 rotate_left
 refine js 163 (decide (0≤r)) (fun h1=>?_) (fun h1=>?_)
 ·
  have gh:=h1
  replace gh:=of_decide_eq_true gh
  refine zD 3<|jw 166 (.bool ((decide (0≤r))&&(decide (r <128)))) (w:= .bool (decide (r <128))) (by rw[h1]<;>rfl) ?_
  exact hj _ (by kernel_rfl) (by kernel_rfl)
 ·
  have gh:=h1
  replace gh:=of_decide_eq_false gh
  refine zD 3<|jw 166 (.bool ((decide (0≤r))&&(decide (r <128)))) (w:= .bool false) (by rw[h1]<;>rfl) ?_
  exact hj _ (by kernel_rfl) (by kernel_rfl)
 refine zD 2<|js 160 ((decide (0≤r))&&(decide (r <128))) (fun h2=>?_) (fun h2=>?_)
 ·
  try simp only[zB] at h2
  refine zD 6<|jp (vs:=[.string a,.int .u8 (IntKind.u8.wrap r)]) [] [] (fun aE hs hZ=>Yi)<|zD 3<|aJ q0 (zI (O3 a ((IntKind.u8.wrap r)).toNat.toUInt8)) [] [] [] (Sub.refl _) ⟨_,_,rfl,rfl,rfl,rfl⟩
 try simp only[zB] at h2
 exfalso;omega
theorem ak6{a:ByteArray}{ro:Nat→Option Obj}(hr:0≤r∧r <128):dL zT 221 [.string a,.int .i32 r] ro (.bool (decide (O3 a (IntKind.u8.wrap r).toNat.toUInt8≥0))):=by
 refine bI av [] [] bB<|zD 8<|jp (vs:=[.string a,.int .i32 r]) [] [] (fun aE hs hZ=>arD (by omega))<|zD 4<|aJ q0 (.bool (decide ((O3 a (IntKind.u8.wrap r).toNat.toUInt8)≥0))) [] [] [] (Sub.refl _) ⟨_,_,rfl,rfl,rfl,rfl⟩
theorem anc{ro:Nat→Option Obj}:dL zT 199 [.int .i32 r] ro (zI (kindOf r)):=by
 refine bI av [] [] bB<|zD 11<|jj 3 [(0,.int .i32 r),(2,zI 0),(9,.bool ((decide (r≥97))&&(decide (r≤122))))] (fun gJ=>?_) (fun hj=>?_)
 rotate_left
 refine js 6 (decide (r≥97)) (fun h1=>?_) (fun h1=>?_)
 ·
  have gh:=h1
  replace gh:=of_decide_eq_true gh
  refine zD 3<|jw 9 (.bool ((decide (r≥97))&&(decide (r≤122)))) (w:= .bool (decide (r≤122))) (by rw[h1]<;>rfl) ?_
  exact hj _ (by kernel_rfl) (by kernel_rfl)
 ·
  have gh:=h1
  replace gh:=of_decide_eq_false gh
  refine zD 3<|jw 9 (.bool ((decide (r≥97))&&(decide (r≤122)))) (w:= .bool false) (by rw[h1]<;>rfl) ?_
  exact hj _ (by kernel_rfl) (by kernel_rfl)
 refine zD 2<|js 3 ((decide (r≥97))&&(decide (r≤122))) (fun h2=>?_) (fun h2=>?_)
 ·
  try simp only[zB] at h2
  refine zD 6<|aJ q0 (zI 1) [] [] [] (Sub.refl _) ⟨_,_,rfl,rfl,by simp only[kindOf,hqw];congr 1;(try simp at*);(repeat' split)<;>omega,rfl⟩
 try simp only[zB] at h2
 refine zD 6<|jj 3 [(0,.int .i32 r),(2,zI 0),(16,.bool ((decide (r≥65))&&(decide (r≤90))))] (fun gJ=>?_) (fun hj=>?_)
 rotate_left
 refine js 13 (decide (r≥65)) (fun h3=>?_) (fun h3=>?_)
 ·
  have sD:=h3
  replace sD:=of_decide_eq_true sD
  refine zD 3<|jw 16 (.bool ((decide (r≥65))&&(decide (r≤90)))) (w:= .bool (decide (r≤90))) (by rw[h3]<;>rfl) ?_
  exact hj _ (by kernel_rfl) (by kernel_rfl)
 ·
  have sD:=h3
  replace sD:=of_decide_eq_false sD
  refine zD 3<|jw 16 (.bool ((decide (r≥65))&&(decide (r≤90)))) (w:= .bool false) (by rw[h3]<;>rfl) ?_
  exact hj _ (by kernel_rfl) (by kernel_rfl)
 refine zD 1<|jj 4 [(2,zI 0),(21,.bool (((decide (r≥65))&&(decide (r≤90)))&&(!(decide (O3 (bs [72,81,87]) (IntKind.u8.wrap r).toNat.toUInt8≥0)))))] (fun gJ=>?_) (fun hj=>?_)
 rotate_left
 refine js 17 ((decide (r≥65))&&(decide (r≤90))) (fun h4=>?_) (fun h4=>?_)
 ·
  have xw:=h4
  try simp only[zB] at xw
  refine zD 1<|jp (vs:=[.string (bs [72,81,87]),.int .i32 r]) [] [] (fun aE hs hZ=>ak6 (by omega))<|zD 2<|jw 21 (.bool (((decide (r≥65))&&(decide (r≤90)))&&(!(decide (O3 (bs [72,81,87]) (IntKind.u8.wrap r).toNat.toUInt8≥0))))) (w:= .bool (!(decide (O3 (bs [72,81,87]) (IntKind.u8.wrap r).toNat.toUInt8≥0)))) (by rw[h4]<;>rfl) ?_
  exact hj _ (by kernel_rfl) (by kernel_rfl)
 ·
  have xw:=h4
  try simp only[zB] at xw
  refine zD 4<|jw 21 (.bool (((decide (r≥65))&&(decide (r≤90)))&&(!(decide (O3 (bs [72,81,87]) (IntKind.u8.wrap r).toNat.toUInt8≥0))))) (w:= .bool false) (by rw[h4]<;>rfl) ?_
  exact hj _ (by kernel_rfl) (by kernel_rfl)
 refine zD 2<|js 10 (((decide (r≥65))&&(decide (r≤90)))&&(!(decide (O3 (bs [72,81,87]) (IntKind.u8.wrap r).toNat.toUInt8≥0)))) (fun h5=>?_) (fun h5=>?_)
 ·
  try simp only[zB] at h5
  refine zD 6<|aJ q0 (zI 2) [] [] [] (Sub.refl _) ⟨_,_,rfl,rfl,by simp only[kindOf,hqw];congr 1;(try simp at*);(repeat' split)<;>omega,rfl⟩
 try simp only[zB] at h5
 refine zD 7<|aJ q0 (zI 0) [] [] [] (Sub.refl _) ⟨_,_,rfl,rfl,by simp only[kindOf,hqw];congr 1;(try simp at*);(repeat' split)<;>omega,rfl⟩
theorem ac5:((List.range 256).all fun n=> !FE (UInt8.ofNat n)||decide (kindOf (n:Int)=1))=true:=by kernel_rfl
theorem ac4:((List.range 256).all fun n=> !Fg (UInt8.ofNat n)||decide (kindOf (n:Int)=2))=true:=by kernel_rfl
def W5(w:ByteArray)(k:Int):Prop:=∀b∈w.data.toList,b.toNat <128∧kindOf (b.toNat:Int)=k
theorem N2{w:ByteArray}(h:Script w):∃k:Int,(k=1∨k=2)∧W5 w k:=by
 have hb:∀b:UInt8,UInt8.ofNat b.toNat=b:=fun b=>by simp
 rcases h with h|h
 ·refine⟨1,.inl rfl,fun b mo=>?_⟩
  have h1:=h b mo
  have h2:=List.all_eq_true.1 ac5 b.toNat (List.mem_range.2 b.toNat_lt)
  rw[hb,h1] at h2
  simp only[FE,Bool.and_eq_true,Nat.ble_eq] at h1
  exact⟨by omega,by simpa using h2⟩
 refine⟨2,.inr rfl,fun b mo=>?_⟩
 have h1:=h b mo
 have h2:=List.all_eq_true.1 ac4 b.toNat (List.mem_range.2 b.toNat_lt)
 rw[hb,h1] at h2
 simp only[Fg,Bool.and_eq_true,Nat.ble_eq] at h1
 exact⟨by omega,by simpa using h2⟩
theorem ajM{w:ByteArray}{k:Int}{ro:Nat→Option Obj}(hs:1≤w.size∧w.size≤6)(hk:k=1∨k=2)(hK:W5 w k):dL zT 158 [.string w] ro (zI 0):=by
 refine bI av [] [] bB<|zD 11<|zJ 9 ((w.size:Int)=0) (fun h1=>?_) fun h1=>?_
 ·
  exfalso;omega
 refine zD 9<|zJ 12 ((w.size:Int)>6) (fun h2=>?_) fun h2=>?_
 ·
  exfalso;omega
 refine zD 10<|jn fun r14=>zD 2<|eG [1,1,1,1,0,1,0,0] [] (fun(zz:Nat×Int)=>[(3,zI zz.2),(14,zP r14)]) (fun(zz:Nat×Int)=>[.b r14 (.stringIter w zz.1)]) (fun(zz:Nat×Int)=>zz.1≤w.data.toList.length∧(zz.2=0∨zz.2=k)) (fun(zz:Nat×Int)=>w.data.toList.length-zz.1) (⟨0,0⟩) ⟨by omega,.inl rfl⟩ [0] ?_
 rintro⟨p,sc⟩ hI K1 bU rest
 dsimp only at hI
 refine zD 2 ?_
 cases Pj:w.data.toList[p]? with
 |some y3=>
  refine jnA r14 0 Pj (hK _ (List.mem_of_getElem? Pj)).1<|zD 7 ?_
  have V1:=(hK _ (List.mem_of_getElem? Pj)).2
  refine zD 7<|jp (vs:=[.int .i32 (y3.toNat:Int)]) [] [] (fun aE hs hZ=>anc)<|zD 8<|zJ 21 (sc=0) (fun h3=>?_) fun h3=>?_
  ·
   refine zD 10<|jj 4 [(3,zI (kindOf (y3.toNat:Int))),(14,zP r14),(29,.bool ((decide ((kindOf (y3.toNat:Int))=0))||(!decide ((kindOf (y3.toNat:Int))=(kindOf (y3.toNat:Int))))))] (fun gJ=>?_) (fun hj=>?_)
   rotate_left
   refine js 25 (decide ((kindOf (y3.toNat:Int))=0)) (fun h4=>?_) (fun h4=>?_)
   ·
    have xw:=h4
    replace xw:=of_decide_eq_true xw
    refine zD 4<|jw 29 (.bool ((decide ((kindOf (y3.toNat:Int))=0))||(!decide ((kindOf (y3.toNat:Int))=(kindOf (y3.toNat:Int)))))) (w:= .bool true) (by rw[h4]<;>rfl) ?_
    exact hj _ (by kernel_rfl) (by kernel_rfl)
   ·
    have xw:=h4
    replace xw:=of_decide_eq_false xw
    refine zD 4<|jw 29 (.bool ((decide ((kindOf (y3.toNat:Int))=0))||(!decide ((kindOf (y3.toNat:Int))=(kindOf (y3.toNat:Int)))))) (w:= .bool (!decide ((kindOf (y3.toNat:Int))=(kindOf (y3.toNat:Int))))) (by rw[h4]<;>rfl) ?_
    exact hj _ (by kernel_rfl) (by kernel_rfl)
   refine zD 1<|js 29 ((decide ((kindOf (y3.toNat:Int))=0))||(!decide ((kindOf (y3.toNat:Int))=(kindOf (y3.toNat:Int))))) (fun h5=>?_) (fun h5=>?_)
   ·
    try simp only[zB] at h5
    exfalso;omega
   try simp only[zB] at h5
   refine zD 2<|bO bU (⟨p+1,(kindOf (y3.toNat:Int))⟩) ⟨by have:=(List.getElem?_eq_some_iff.1 Pj).1;dsimp only;omega,by dsimp only;omega⟩ (by have:=(List.getElem?_eq_some_iff.1 Pj).1;dsimp only;omega) [0] (Sub.refl _)
  refine zD 7<|jj 4 [(3,zI sc),(14,zP r14),(29,.bool ((decide ((kindOf (y3.toNat:Int))=0))||(!decide ((kindOf (y3.toNat:Int))=sc))))] (fun gJ=>?_) (fun hj=>?_)
  rotate_left
  refine js 25 (decide ((kindOf (y3.toNat:Int))=0)) (fun h6=>?_) (fun h6=>?_)
  ·
   have h6g:=h6
   replace h6g:=of_decide_eq_true h6g
   refine zD 4<|jw 29 (.bool ((decide ((kindOf (y3.toNat:Int))=0))||(!decide ((kindOf (y3.toNat:Int))=sc)))) (w:= .bool true) (by rw[h6]<;>rfl) ?_
   exact hj _ (by kernel_rfl) (by kernel_rfl)
  ·
   have h6g:=h6
   replace h6g:=of_decide_eq_false h6g
   refine zD 4<|jw 29 (.bool ((decide ((kindOf (y3.toNat:Int))=0))||(!decide ((kindOf (y3.toNat:Int))=sc)))) (w:= .bool (!decide ((kindOf (y3.toNat:Int))=sc))) (by rw[h6]<;>rfl) ?_
   exact hj _ (by kernel_rfl) (by kernel_rfl)
  refine zD 1<|js 29 ((decide ((kindOf (y3.toNat:Int))=0))||(!decide ((kindOf (y3.toNat:Int))=sc))) (fun h7=>?_) (fun h7=>?_)
  ·
   try simp only[zB] at h7
   exfalso;omega
  try simp only[zB] at h7
  refine zD 2<|bO bU (⟨p+1,sc⟩) ⟨by have:=(List.getElem?_eq_some_iff.1 Pj).1;dsimp only;omega,by dsimp only;omega⟩ (by have:=(List.getElem?_eq_some_iff.1 Pj).1;dsimp only;omega) [0] (Sub.refl _)
 |none=>
  refine jnZ r14 0 Pj<|zD 10<|aJ q0 (zI 0) [] [] [] (Sub.refl _) ⟨_,_,rfl,rfl,rfl,rfl⟩
def mw:=(mV Tryz.typeInfo3 Tryz.underlying3 rfl rfl rfl rfl rfl rfl:TF zT 3 _ 1 8 _ false)
theorem agu(a b c d:Int)(dep:Nat):ZB zT (dep+2) 70 (.agg ⟨[zI a,zI b]⟩) (.agg ⟨[zI c,zI d]⟩) (a==c&&(b==d&&true)):=
 tP (mV Tryz.typeInfo70 Tryz.underlying70 rfl rfl rfl rfl rfl rfl) Tryz.stoodInHeld70 (.cons (by decide) (jY mw rfl) (jY mw rfl) (nQ mw _ _) (.cons (by decide) (jY mw rfl) (jY mw rfl) (nQ mw _ _) .nil))
theorem vK(a b c d:Int):EqV zT 70 (.agg ⟨[zI a,zI b]⟩) (.agg ⟨[zI c,zI d]⟩) (a==c&&(b==d&&true)):=Mn (agu a b c d _)
theorem auw(a b c d e f:Int):EqV zT 144 (.agg ⟨[zI a,zI b,zI c]⟩) (.agg ⟨[zI d,zI e,zI f]⟩) (a==d&&(b==e&&(c==f&&true)&&true)):=
 Mn (tP (mV Tryz.typeInfo144 Tryz.underlying144 rfl rfl rfl rfl rfl rfl) Tryz.stoodInHeld144 (.cons (by decide) (jY mw rfl) (jY mw rfl) (nQ mw _ _) (.cons (by decide) (Fc (mV Tryz.typeInfo70 Tryz.underlying70 rfl rfl rfl rfl rfl rfl) rfl) (Fc (mV Tryz.typeInfo70 Tryz.underlying70 rfl rfl rfl rfl rfl rfl) rfl) (agu _ _ _ _ _) .nil)))
theorem Fp:nT zT 70:=Tryz.eqGuardType70
theorem ay6:nT zT 144:=Tryz.eqGuardType144
def Bp(n l:Int)(y:ah):Bool:=n==y.n&&(l==y.l&&true)
theorem Sf{w:ByteArray}{ro:Nat→Option Obj}(hs:1≤w.size∧w.size≤6)(h:Script w):dL zT 158 [.string w] ro (zI 0):=by
 obtain⟨k,h1,h2⟩:=N2 h
 exact ajM hs h1 h2
theorem zw{ro:Nat→Option Obj}:dL zT 66 [zI 0] ro (.tuple ⟨[]⟩):=by
 refine bI av [] [] bB<|zD 7<|aJ q0 (.tuple ⟨[]⟩) [] [] [] (Sub.refl _) ⟨_,_,rfl,rfl,rfl,rfl⟩
theorem VE{ro:Nat→Option Obj}:dL zT 65 [.agg ⟨[.string x.name,zI x.st,zI x.no,zI x.head,.bool x.bold]⟩] ro (.agg ⟨[zI x.st,zI x.no,zI 0]⟩):=by
 refine bI av [] [] bB<|zD 2<|jn fun b1=>jn fun b2=>jd 12 [1,1,0]<|aJ q0 (.agg ⟨[zI x.st,zI x.no,zI 0]⟩) [0] [] [] (Sub.refl _) ⟨_,_,rfl,rfl,rfl,rfl⟩
theorem ado{v:Value}{ps:List ah}{l:Int}{ro:Nat→Option Obj}(hp:bL ro v 2 cH ps)(hn:ps.length≤1000):dL zT 200 [v,.agg ⟨[zI n,zI l]⟩] ro (zI (cZ (Bp n l) ps 0)):=by
 obtain⟨QA,qpb,qpo,IZ,rfl,qpk,XN,XL⟩:=hp
 refine bI av [] [] bB<|zD 2<|jn fun b3=>zD 10<|eG [1,0,1,0,0] [] (fun(zz:Nat)=>[(0,.slice QA ps.length IZ),(3,zP b3),(7,zI (ps.length:Int)),(8,zI (zz:Int))]) (fun(zz:Nat)=>[.b b3 (.cells ⟨[zI n,zI l]⟩ 70 (0,0))]) (fun(zz:Nat)=>zz≤ps.length∧cZ (Bp n l) ps 0=cZ (Bp n l) (ps.drop zz) zz) (fun(zz:Nat)=>ps.length-zz) 0 ⟨by omega,rfl⟩ [0] ?_
 rintro k hI K1 bU rest
 refine zD 5<|zJ 9 ((k:Int) <(ps.length:Int)) (fun h1=>?_) fun h1=>?_
 ·
  refine jd 14 [0] ?_
  obtain⟨fK,eN⟩:=zG ps k
  refine iE IZ 2 XN eN<|jl 0 (XL _ _ eN)<|jeq Fp (vK n l fK.n fK.l)<|zD 1<|js 16 (n==fK.n&&(l==fK.l&&true)) (fun h2=>?_) (fun h2=>?_)
  ·
   refine zD 7<|aJ q0 (zI (k:Int)) [] [] [] (Sub.refl _) ⟨_,_,rfl,rfl,by rw[hI.2,jF eN,show Bp n l fK=true from (by assumption)];rfl,rfl⟩
  refine zD 3<|ja ((k:Int)+1) (by omega)<|zD 2<|bO bU (k+1) ⟨by omega,by rw[hI.2,jF eN,show Bp n l fK=false from (by assumption)];rfl⟩ (by omega) [0] (Sub.refl _)
 refine zD 7<|aJ q0 (zI (-1)) [] [] [] (Sub.refl _) ⟨_,_,rfl,rfl,by rw[hI.2,qe (by omega)],rfl⟩
theorem Jk{v:Value}{ps:List ah}{l:Int}{ro:Nat→Option Obj}(hp:bL ro v 2 cH ps)(hn:ps.length≤1000):dL zT 159 [v,.agg ⟨[zI n,zI l]⟩] ro (.bool (decide (cZ (Bp n l) ps 0≥0))):=by
 obtain⟨QA,qpb,qpo,IZ,rfl,qpk,XN,XL⟩:=hp
 refine bI av [] [] bB<|zD 2<|jn fun b3=>jd 6 [0]<|jp (vs:=[.slice QA ps.length IZ,.agg ⟨[zI n,zI l]⟩]) [] [] (fun aE hs hZ=>ado ((show bL _ _ _ _ _ from ⟨QA,qpb,qpo,IZ,rfl,qpk,XN,XL⟩).up hs) (by first|omega| (simp only[List.length_set,List.length_append,List.length_cons,List.length_nil];omega))) ?_
 refine zD 4<|aJ q0 (.bool (decide ((cZ (Bp n l) ps 0)≥0))) [] [] [] (Sub.refl _) ⟨_,_,rfl,rfl,rfl,rfl⟩
theorem V4{i:Int}(h:nJ hd i): -1≤i∧i <hd.length:=by
 rcases h with h| ⟨h0,x,h1,_⟩
 ·omega
 have:=(List.getElem?_eq_some_iff.1 h1).1
 omega
theorem Py{hv:List bA}{i:Int}{x:bA}(h:du dj hv hd)(hi:nJ hd i)(h0:i≥0)(hx:hv[i.toNat]?=some x):0≤x.cls:=by
 rcases hi with hi| ⟨_,y,h1,h2⟩
 ·omega
 obtain⟨z,h3,h4⟩:=h.get hx
 rw[h1] at h3;cases h3
 rw[h4.2.1];exact h2
theorem I2{S:List (List ah)}{l:List ah}(h:al9 S hd x)(hl:S[x.st.toNat]?=some l):cZ (Bp x.no 0) l 0≥0:=by
 obtain⟨l',h1,h2⟩:=h.2
 rw[h1] at hl;cases hl
 have key:∀(l:List ah) (k:Nat),(⟨x.no,0⟩:ah)∈l→cZ (Bp x.no 0) l k≥0:=by
  intro l
  induction l with
  |nil=>intro k h;cases h
  |cons y l ih=>
   intro k h
   simp only[cZ]
   cases hx:Bp x.no 0 y with
   |true=>simp
   |false=>
    simp only[cond_false]
    rcases List.mem_cons.1 h with rfl|h
    ·simp[Bp] at hx
    exact ih _ h
 exact key _ 0 h2
theorem adi{ro:Nat→Option Obj}(hK:gG ro l K)(hO:lO K)(hx:al9 K.str K.hd x):dL zT 114 [.agg ⟨l⟩,.agg ⟨[.string x.name,zI x.st,zI x.no,zI x.head,.bool x.bold]⟩,.bool true] ro (zI 0):=by
 obtain⟨vS,vT,vc,vh,vr,vb,va,vf,fa,fc,hv,rfl,hS,hT,p6,nA,hr,hb,ha,hf⟩:=hK
 obtain⟨ib,hs,fw⟩:=id hS
 obtain⟨iI,ht,fo⟩:=id hT
 obtain⟨hc,hh,CI⟩:=id p6
 obtain⟨mg,RV,RS,kU,rfl,RU,Kv,Ku⟩:=hs
 obtain⟨eY,zh,zf,ee,rfl,zg,rH,rG⟩:=ht
 obtain⟨eE,zk,zi,ep,rfl,Cq,xW,xV⟩:=hc
 obtain⟨dM,uy,ux,dq,rfl,wA,qv,qu⟩:=hh
 obtain⟨kI,Hq,Hp,kH,rfl,M1,EZ,EY⟩:=hr
 obtain⟨mN,QE,QB,mA,rfl,QC,Ob,Oa⟩:=hb
 obtain⟨mi,M5,M3,lS,rfl,M4,KC,KB⟩:=ha
 obtain⟨jP,Bm,Bj,iZ,rfl,HV,w9,wZ⟩:=hf
 have BN:=hO.rules
 have qp:=hO.before.1
 have Nf:=hO.after.1
 have Nd:=hO.facts.1
 have Nc:=hO.ways.1
 have Hy:=fw.len
 have Dr:=fo.len
 have V0:=hO.pO.two
 have ZN:=hO.dI.nh
 have M0:∀(i:Nat) (p:cX),([]:List cX)[i]?=some p→cA ⟨ro,[]⟩ 0 (0+i*6) 6 (mH p):=fun _ _ h=>n9 h
 have hNm:=hx.1.1
 have hNs:=hNm.1
 have hHd:=hx.1.2.1
 have hHl:=V4 hHd
 have hSt:=hx.1.2.2.1
 have hBd:=hx.1.2.2.2
 have hlen:=nA.len
 refine bI av [] [] bB<|zD 2<|jn fun b3=>jn fun b4=>jd 7 [0]<|jp (vs:=[.string x.name]) [] [] (fun aE hs hZ=>(Sf (by omega) hNm.2))<|jd 27 [1,0,1]<|ja ((hv.length:Int)-1) (by omega)<|jp (vs:=[zI x.head,zI (-1),zI ((hv.length:Int)-1)]) [] [] (fun aE hs hZ=>fZ)<|zD 3<|js 19 (!(iV x.head (-1) ((hv.length:Int)-1))) (fun h1=>?_) (fun h1=>?_)
 ·
  try simp only[zB] at h1
  exfalso;simp only[iV,Bool.and_eq_false_iff,decide_eq_false_iff_not] at h1;omega
 try simp only[zB] at h1
 refine jd 7 [0]<|js 33 (decide (x.head≥0)) (fun h2=>?_) (fun h2=>?_)
 ·
  have mr:=h2
  replace mr:=of_decide_eq_true mr
  refine jd 5 [1,0] ?_
  obtain⟨DR,xc⟩:=zG hv (x.head.toNat)
  refine M7 x.head dq 4 qv xc (by omega)<|zD 1<|jl 1 (qu _ _ xc)<|zD 4<|zJ 29 (DR.cls=(-1)) (fun h3=>?_) fun h3=>?_
  ·
   exfalso;have:=Py nA hHd (by omega) xc;omega
  refine jd 8 [0]<|ja ((ib.length:Int)-1) (by omega)<|jp (vs:=[zI x.st,zI 0,zI ((ib.length:Int)-1)]) [] [] (fun aE hs hZ=>fZ)<|zD 3<|js 44 (!(iV x.st 0 ((ib.length:Int)-1))) (fun h4=>?_) (fun h4=>?_)
  ·
   try simp only[zB] at h4
   exfalso;simp only[iV,Bool.and_eq_false_iff,decide_eq_false_iff_not] at h4;omega
  try simp only[zB] at h4
  refine jd 7 [0] ?_
  obtain⟨x57,Dh⟩:=zG ib (x.st.toNat)
  refine M7 x.st kU 1 Kv Dh (by omega) ?_
  obtain⟨l58,aey,h58⟩:=fw.get Dh
  obtain aPp:=hO.pO.len _ (List.mem_of_getElem? aey)
  obtain⟨abO,aqf,aqb,abN,rfl,aqd,aqe,aqc⟩:=h58
  refine jl 0 (Ku _ _ Dh)<|jd 1 [0]<|jp (vs:=[.agg ⟨[.string x.name,zI x.st,zI x.no,zI x.head,.bool x.bold]⟩]) [] [] (fun aE hs hZ=>(VE (x:=(⟨x.name,x.st,x.no,x.head,x.bold⟩:aI))))<|zD 1<|jp (vs:=[.slice abO l58.length abN,.agg ⟨[zI x.no,zI 0]⟩]) [] [] (fun aE hs hZ=>Jk ((show bL _ _ _ _ _ from ⟨abO,aqf,aqb,abN,rfl,aqd,aqe,aqc⟩).up hs) (by first|omega| (simp only[List.length_set,List.length_append,List.length_cons,List.length_nil];omega))) ?_
  refine zD 4<|js 44 (!(decide (cZ (Bp x.no 0) l58 0≥0))) (fun h5=>?_) (fun h5=>?_)
  ·
   try simp only[zB] at h5
   exfalso;have:=I2 hx aey;omega
  try simp only[zB] at h5
  refine jd 20 [0]<|js 74 x.bold (fun h6=>?_) (fun h6=>?_)
  ·
   exfalso;rw[hBd] at h6;cases h6
  refine zD 7<|aJ q0 (zI 0) [] [] [] (Sub.refl _) ⟨_,_,rfl,rfl,rfl,rfl⟩
 have mr:=h2
 replace mr:=of_decide_eq_false mr
 refine jd 20 [0]<|ja ((ib.length:Int)-1) (by omega)<|jp (vs:=[zI x.st,zI 0,zI ((ib.length:Int)-1)]) [] [] (fun aE hs hZ=>fZ)<|zD 3<|js 44 (!(iV x.st 0 ((ib.length:Int)-1))) (fun h7=>?_) (fun h7=>?_)
 ·
  try simp only[zB] at h7
  exfalso;simp only[iV,Bool.and_eq_false_iff,decide_eq_false_iff_not] at h7;omega
 try simp only[zB] at h7
 refine jd 7 [0] ?_
 obtain⟨x57,Dh⟩:=zG ib (x.st.toNat)
 refine M7 x.st kU 1 Kv Dh (by omega) ?_
 obtain⟨l58,aey,h58⟩:=fw.get Dh
 obtain aPp:=hO.pO.len _ (List.mem_of_getElem? aey)
 obtain⟨abO,aqf,aqb,abN,rfl,aqd,aqe,aqc⟩:=h58
 refine jl 0 (Ku _ _ Dh)<|jd 1 [0]<|jp (vs:=[.agg ⟨[.string x.name,zI x.st,zI x.no,zI x.head,.bool x.bold]⟩]) [] [] (fun aE hs hZ=>(VE (x:=(⟨x.name,x.st,x.no,x.head,x.bold⟩:aI))))<|zD 1<|jp (vs:=[.slice abO l58.length abN,.agg ⟨[zI x.no,zI 0]⟩]) [] [] (fun aE hs hZ=>Jk ((show bL _ _ _ _ _ from ⟨abO,aqf,aqb,abN,rfl,aqd,aqe,aqc⟩).up hs) (by first|omega| (simp only[List.length_set,List.length_append,List.length_cons,List.length_nil];omega))) ?_
 refine zD 4<|js 44 (!(decide (cZ (Bp x.no 0) l58 0≥0))) (fun h8=>?_) (fun h8=>?_)
 ·
  try simp only[zB] at h8
  exfalso;have:=I2 hx aey;omega
 try simp only[zB] at h8
 refine jd 20 [0]<|js 74 x.bold (fun h9=>?_) (fun h9=>?_)
 ·
  exfalso;rw[hBd] at h9;cases h9
 refine zD 7<|aJ q0 (zI 0) [] [] [] (Sub.refl _) ⟨_,_,rfl,rfl,rfl,rfl⟩
theorem adj{ro:Nat→Option Obj}(hK:gG ro l K)(hO:lO K)(hx:aFZ K.hd x):dL zT 114 [.agg ⟨l⟩,.agg ⟨[.string x.name,zI x.st,zI x.no,zI x.head,.bool x.bold]⟩,.bool false] ro (zI 0):=by
 obtain⟨vS,vT,vc,vh,vr,vb,va,vf,fa,fc,hv,rfl,hS,hT,p6,nA,hr,hb,ha,hf⟩:=hK
 obtain⟨ib,hs,fw⟩:=id hS
 obtain⟨iI,ht,fo⟩:=id hT
 obtain⟨hc,hh,CI⟩:=id p6
 obtain⟨mg,RV,RS,kU,rfl,RU,Kv,Ku⟩:=hs
 obtain⟨eY,zh,zf,ee,rfl,zg,rH,rG⟩:=ht
 obtain⟨eE,zk,zi,ep,rfl,Cq,xW,xV⟩:=hc
 obtain⟨dM,uy,ux,dq,rfl,wA,qv,qu⟩:=hh
 obtain⟨kI,Hq,Hp,kH,rfl,M1,EZ,EY⟩:=hr
 obtain⟨mN,QE,QB,mA,rfl,QC,Ob,Oa⟩:=hb
 obtain⟨mi,M5,M3,lS,rfl,M4,KC,KB⟩:=ha
 obtain⟨jP,Bm,Bj,iZ,rfl,HV,w9,wZ⟩:=hf
 have BN:=hO.rules
 have qp:=hO.before.1
 have Nf:=hO.after.1
 have Nd:=hO.facts.1
 have Nc:=hO.ways.1
 have Hy:=fw.len
 have Dr:=fo.len
 have V0:=hO.pO.two
 have ZN:=hO.dI.nh
 have M0:∀(i:Nat) (p:cX),([]:List cX)[i]?=some p→cA ⟨ro,[]⟩ 0 (0+i*6) 6 (mH p):=fun _ _ h=>n9 h
 have hNm:=hx.1.1
 have hNs:=hNm.1
 have hHd:=hx.1.2.1
 have hHl:=V4 hHd
 have hSt:=hx.1.2.2.1
 have hBd:=hx.1.2.2.2
 have hlen:=nA.len
 have hNo:=hx.2
 refine bI av [] [] bB<|zD 2<|jn fun b3=>jn fun b4=>jd 7 [0]<|jp (vs:=[.string x.name]) [] [] (fun aE hs hZ=>(Sf (by omega) hNm.2))<|jd 27 [1,0,1]<|ja ((hv.length:Int)-1) (by omega)<|jp (vs:=[zI x.head,zI (-1),zI ((hv.length:Int)-1)]) [] [] (fun aE hs hZ=>fZ)<|zD 3<|js 19 (!(iV x.head (-1) ((hv.length:Int)-1))) (fun h1=>?_) (fun h1=>?_)
 ·
  try simp only[zB] at h1
  exfalso;simp only[iV,Bool.and_eq_false_iff,decide_eq_false_iff_not] at h1;omega
 try simp only[zB] at h1
 refine jd 7 [0]<|js 33 (decide (x.head≥0)) (fun h2=>?_) (fun h2=>?_)
 ·
  have mr:=h2
  replace mr:=of_decide_eq_true mr
  refine jd 5 [1,0] ?_
  obtain⟨DR,xc⟩:=zG hv (x.head.toNat)
  refine M7 x.head dq 4 qv xc (by omega)<|zD 1<|jl 1 (qu _ _ xc)<|zD 4<|zJ 29 (DR.cls=(-1)) (fun h3=>?_) fun h3=>?_
  ·
   exfalso;have:=Py nA hHd (by omega) xc;omega
  refine jd 8 [0]<|ja ((ib.length:Int)-1) (by omega)<|jp (vs:=[zI x.st,zI 0,zI ((ib.length:Int)-1)]) [] [] (fun aE hs hZ=>fZ)<|zD 3<|js 44 (!(iV x.st 0 ((ib.length:Int)-1))) (fun h4=>?_) (fun h4=>?_)
  ·
   try simp only[zB] at h4
   exfalso;simp only[iV,Bool.and_eq_false_iff,decide_eq_false_iff_not] at h4;omega
  try simp only[zB] at h4
  refine jd 25 [0]<|jp (vs:=[zI x.no,zI 1,zI 40]) [] [] (fun aE hs hZ=>fZ)<|zD 4<|js 65 (!(iV x.no 1 40)) (fun h5=>?_) (fun h5=>?_)
  ·
   try simp only[zB] at h5
   exfalso;simp only[iV,Bool.and_eq_false_iff,decide_eq_false_iff_not] at h5;omega
  try simp only[zB] at h5
  refine jd 7 [0]<|js 74 x.bold (fun h6=>?_) (fun h6=>?_)
  ·
   exfalso;rw[hBd] at h6;cases h6
  refine zD 7<|aJ q0 (zI 0) [] [] [] (Sub.refl _) ⟨_,_,rfl,rfl,rfl,rfl⟩
 have mr:=h2
 replace mr:=of_decide_eq_false mr
 refine jd 20 [0]<|ja ((ib.length:Int)-1) (by omega)<|jp (vs:=[zI x.st,zI 0,zI ((ib.length:Int)-1)]) [] [] (fun aE hs hZ=>fZ)<|zD 3<|js 44 (!(iV x.st 0 ((ib.length:Int)-1))) (fun h7=>?_) (fun h7=>?_)
 ·
  try simp only[zB] at h7
  exfalso;simp only[iV,Bool.and_eq_false_iff,decide_eq_false_iff_not] at h7;omega
 try simp only[zB] at h7
 refine jd 25 [0]<|jp (vs:=[zI x.no,zI 1,zI 40]) [] [] (fun aE hs hZ=>fZ)<|zD 4<|js 65 (!(iV x.no 1 40)) (fun h8=>?_) (fun h8=>?_)
 ·
  try simp only[zB] at h8
  exfalso;simp only[iV,Bool.and_eq_false_iff,decide_eq_false_iff_not] at h8;omega
 try simp only[zB] at h8
 refine jd 7 [0]<|js 74 x.bold (fun h9=>?_) (fun h9=>?_)
 ·
  exfalso;rw[hBd] at h9;cases h9
 refine zD 7<|aJ q0 (zI 0) [] [] [] (Sub.refl _) ⟨_,_,rfl,rfl,rfl,rfl⟩
theorem gG.up{ro aK:Nat→Option Obj}(h:gG ro l K)(hs:Sub ro aK):gG aK l K:=by
 obtain⟨vS,vT,vc,vh,vr,vb,va,vf,fa,fc,hv,rfl,h1,h2,h3,h4,h5,h6,h7,h8⟩:=h
 exact⟨_,_,_,_,_,_,_,_,_,_,_,rfl,h1.up hs,h2.up hs,h3.up hs,h4,h5.up hs,h6.up hs,h7.up hs,h8.up hs⟩
theorem adk{ro:Nat→Option Obj}(hK:gG ro l K)(hO:lO K)(hp:bL ro vp 5 eJ K.before):dL zT 88 [.agg ⟨l⟩,vp,.bool true] ro (zI 0):=by
 have Wc:=hK
 obtain⟨vS,vT,vc,vh,vr,vb,va,vf,fa,fc,hv,rfl,hS,hT,p6,nA,hr,hb,ha,hf⟩:=hK
 obtain⟨ib,hs,fw⟩:=id hS
 obtain⟨iI,ht,fo⟩:=id hT
 obtain⟨hc,hh,CI⟩:=id p6
 obtain⟨mg,RV,RS,kU,rfl,RU,Kv,Ku⟩:=hs
 obtain⟨eY,zh,zf,ee,rfl,zg,rH,rG⟩:=ht
 obtain⟨eE,zk,zi,ep,rfl,Cq,xW,xV⟩:=hc
 obtain⟨dM,uy,ux,dq,rfl,wA,qv,qu⟩:=hh
 obtain⟨kI,Hq,Hp,kH,rfl,M1,EZ,EY⟩:=hr
 obtain⟨mN,QE,QB,mA,rfl,QC,Ob,Oa⟩:=hb
 obtain⟨mi,M5,M3,lS,rfl,M4,KC,KB⟩:=ha
 obtain⟨jP,Bm,Bj,iZ,rfl,HV,w9,wZ⟩:=hf
 have BN:=hO.rules
 have qp:=hO.before.1
 have Nf:=hO.after.1
 have Nd:=hO.facts.1
 have Nc:=hO.ways.1
 have Hy:=fw.len
 have Dr:=fo.len
 have V0:=hO.pO.two
 have ZN:=hO.dI.nh
 have M0:∀(i:Nat) (p:cX),([]:List cX)[i]?=some p→cA ⟨ro,[]⟩ 0 (0+i*6) 6 (mH p):=fun _ _ h=>n9 h
 obtain⟨QA,qpb,qpo,IZ,rfl,qpk,XN,XL⟩:=hp
 refine bI av [] [] bB<|zD 2<|jn fun b3=>zD 9<|zJ 12 ((K.before.length:Int)>4) (fun h1=>?_) fun h1=>?_
 ·
  exfalso;omega
 refine zD 10<|eG [1,1,0,1,0,0] [] (fun(zz:Nat)=>[(2,.bool true),(3,zP b3),(13,.slice QA K.before.length IZ),(14,zI (K.before.length:Int)),(15,zI (zz:Int))]) (fun(zz:Nat)=>[.b b3 (.cells ⟨[.slice mg ib.length kU,.slice eY iI.length ee,.slice fa 0 fc,.slice eE K.cs.length ep,.slice dM hv.length dq,.slice kI K.rules.length kH,.slice mN K.before.length mA,.slice mi K.after.length lS,zI K.gone,zI K.new,zI K.ai,.slice jP K.facts.length iZ]⟩ 38 (0,0))]) (fun(zz:Nat)=>zz≤K.before.length) (fun(zz:Nat)=>K.before.length-zz) 0 (by omega) [0] ?_
 rintro k hI K1 bU rest
 refine zD 5<|zJ 16 ((k:Int) <(K.before.length:Int)) (fun h2=>?_) fun h2=>?_
 ·
  refine zD 6 ?_
  obtain⟨Uu,FN⟩:=zG K.before k
  refine iE IZ 5 XN FN<|jl 0 (XL _ _ FN)<|jn fun b8=>jd 7 [0,1,0]<|jp (vs:=[.agg ⟨[.slice mg ib.length kU,.slice eY iI.length ee,.slice fa 0 fc,.slice eE K.cs.length ep,.slice dM hv.length dq,.slice kI K.rules.length kH,.slice mN K.before.length mA,.slice mi K.after.length lS,zI K.gone,zI K.new,zI K.ai,.slice jP K.facts.length iZ]⟩,.agg ⟨[.string Uu.name,zI Uu.st,zI Uu.no,zI Uu.head,.bool Uu.bold]⟩,.bool true]) [] [] (fun aE hs hZ=>(adi (x:=Uu) (Wc.up hs) hO (hO.before.2 _ (List.mem_of_getElem? FN))))<|zD 10<|ja ((k:Int)+1) (by omega)<|zD 2<|bO bU (k+1) (by omega) (by omega) [1] (Sub.refl _)
 refine zD 7<|aJ q0 (zI 0) [] [] [] (Sub.refl _) ⟨_,_,rfl,rfl,rfl,rfl⟩
theorem adl{ro:Nat→Option Obj}(hK:gG ro l K)(hO:lO K)(hp:bL ro vp 5 eJ K.after):dL zT 88 [.agg ⟨l⟩,vp,.bool false] ro (zI 0):=by
 have Wc:=hK
 obtain⟨vS,vT,vc,vh,vr,vb,va,vf,fa,fc,hv,rfl,hS,hT,p6,nA,hr,hb,ha,hf⟩:=hK
 obtain⟨ib,hs,fw⟩:=id hS
 obtain⟨iI,ht,fo⟩:=id hT
 obtain⟨hc,hh,CI⟩:=id p6
 obtain⟨mg,RV,RS,kU,rfl,RU,Kv,Ku⟩:=hs
 obtain⟨eY,zh,zf,ee,rfl,zg,rH,rG⟩:=ht
 obtain⟨eE,zk,zi,ep,rfl,Cq,xW,xV⟩:=hc
 obtain⟨dM,uy,ux,dq,rfl,wA,qv,qu⟩:=hh
 obtain⟨kI,Hq,Hp,kH,rfl,M1,EZ,EY⟩:=hr
 obtain⟨mN,QE,QB,mA,rfl,QC,Ob,Oa⟩:=hb
 obtain⟨mi,M5,M3,lS,rfl,M4,KC,KB⟩:=ha
 obtain⟨jP,Bm,Bj,iZ,rfl,HV,w9,wZ⟩:=hf
 have BN:=hO.rules
 have qp:=hO.before.1
 have Nf:=hO.after.1
 have Nd:=hO.facts.1
 have Nc:=hO.ways.1
 have Hy:=fw.len
 have Dr:=fo.len
 have V0:=hO.pO.two
 have ZN:=hO.dI.nh
 have M0:∀(i:Nat) (p:cX),([]:List cX)[i]?=some p→cA ⟨ro,[]⟩ 0 (0+i*6) 6 (mH p):=fun _ _ h=>n9 h
 obtain⟨QA,qpb,qpo,IZ,rfl,qpk,XN,XL⟩:=hp
 refine bI av [] [] bB<|zD 2<|jn fun b3=>zD 9<|zJ 12 ((K.after.length:Int)>4) (fun h1=>?_) fun h1=>?_
 ·
  exfalso;omega
 refine zD 10<|eG [1,1,0,1,0,0] [] (fun(zz:Nat)=>[(2,.bool false),(3,zP b3),(13,.slice QA K.after.length IZ),(14,zI (K.after.length:Int)),(15,zI (zz:Int))]) (fun(zz:Nat)=>[.b b3 (.cells ⟨[.slice mg ib.length kU,.slice eY iI.length ee,.slice fa 0 fc,.slice eE K.cs.length ep,.slice dM hv.length dq,.slice kI K.rules.length kH,.slice mN K.before.length mA,.slice mi K.after.length lS,zI K.gone,zI K.new,zI K.ai,.slice jP K.facts.length iZ]⟩ 38 (0,0))]) (fun(zz:Nat)=>zz≤K.after.length) (fun(zz:Nat)=>K.after.length-zz) 0 (by omega) [0] ?_
 rintro k hI K1 bU rest
 refine zD 5<|zJ 16 ((k:Int) <(K.after.length:Int)) (fun h2=>?_) fun h2=>?_
 ·
  refine zD 6 ?_
  obtain⟨Uu,FN⟩:=zG K.after k
  refine iE IZ 5 XN FN<|jl 0 (XL _ _ FN)<|jn fun b8=>jd 7 [0,1,0]<|jp (vs:=[.agg ⟨[.slice mg ib.length kU,.slice eY iI.length ee,.slice fa 0 fc,.slice eE K.cs.length ep,.slice dM hv.length dq,.slice kI K.rules.length kH,.slice mN K.before.length mA,.slice mi K.after.length lS,zI K.gone,zI K.new,zI K.ai,.slice jP K.facts.length iZ]⟩,.agg ⟨[.string Uu.name,zI Uu.st,zI Uu.no,zI Uu.head,.bool Uu.bold]⟩,.bool false]) [] [] (fun aE hs hZ=>(adj (x:=Uu) (Wc.up hs) hO (hO.after.2 _ (List.mem_of_getElem? FN))))<|zD 10<|ja ((k:Int)+1) (by omega)<|zD 2<|bO bU (k+1) (by omega) (by omega) [1] (Sub.refl _)
 refine zD 7<|aJ q0 (zI 0) [] [] [] (Sub.refl _) ⟨_,_,rfl,rfl,rfl,rfl⟩
theorem aq7{x y:eR}{ro:Nat→Option Obj}(hb:ro b=some (.cells ⟨[zI y.a,zI y.b,.bool y.same]⟩ 57 (0,0))):dL zT 116 [.agg ⟨[zI x.a,zI x.b,.bool x.same]⟩,zP b] ro (.bool (decide (x.a=y.a)&&decide (x.b=y.b))):=by
 refine bI av [] [] bB<|zD 2<|jn fun b2=>jd 7 [0]<|jl (b:=b) (off:=0) (m:=3) (vs:=[zI y.a,zI y.b,.bool y.same]) 0 ⟨_,_,_,.inl hb,rfl⟩<|zD 2<|jj 6 [(3,.bool false),(15,.bool ((decide (x.a=y.a))&&(decide (x.b=y.b))))] (fun gJ=>?_) (fun hj=>?_)
 rotate_left
 refine js 9 (decide (x.a=y.a)) (fun h1=>?_) (fun h1=>?_)
 ·
  have gh:=h1
  replace gh:=of_decide_eq_true gh
  refine jd 3 [0]<|jl (b:=b) (off:=0) (m:=3) (vs:=[zI y.a,zI y.b,.bool y.same]) 1 ⟨_,_,_,.inl hb,rfl⟩<|zD 2<|jw 15 (.bool ((decide (x.a=y.a))&&(decide (x.b=y.b)))) (w:= .bool (decide (x.b=y.b))) (by rw[h1]<;>rfl) ?_
  exact hj _ (by kernel_rfl) (by kernel_rfl)
 ·
  have gh:=h1
  replace gh:=of_decide_eq_false gh
  refine zD 6<|jw 15 (.bool ((decide (x.a=y.a))&&(decide (x.b=y.b)))) (w:= .bool false) (by rw[h1]<;>rfl) ?_
  exact hj _ (by kernel_rfl) (by kernel_rfl)
 refine zD 3<|aJ q0 (.bool ((decide (x.a=y.a))&&(decide (x.b=y.b)))) [] [] [] (Sub.refl _) ⟨_,_,rfl,rfl,rfl,rfl⟩
def C6(x y:eR):Bool:=decide (y.a=x.a)&&decide (y.b=x.b)
theorem BW{α:Type}{p:α→Bool}:∀ {l:List α} {k:Nat},(∀y∈l,p y=false)→cZ p l k= -1
 | [],_,_=>rfl
 |x::l,k,h=>by simp only[cZ,h x (List.mem_cons_self ..),cond_false];exact BW fun y hy=>h y (List.mem_cons_of_mem _ hy)
theorem agf{x:eR}(h:fs.Pairwise fun x y=>¬(x.a=y.a∧x.b=y.b))(hx:fs[i]?=some x):cZ (C6 x) (fs.take i) 0 <0:=by
 rw[BW]
 ·omega
 intro y hy
 obtain⟨j,hj⟩:=List.getElem?_of_mem hy
 rw[List.getElem?_take] at hj
 split at hj
 ·rename_i yT
  have:=pN h yT hj hx
  simp only[C6,Bool.and_eq_false_iff,decide_eq_false_iff_not]
  by_cases h1:y.a=x.a
  ·exact .inr fun h2=>this ⟨h1,h2⟩
  exact .inl h1
 cases hj
theorem art{v:Value}{x:eR}{ro:Nat→Option Obj}(hf:bL ro v 3 oK fs)(hn:fs.length≤1000)(hb:ro b=some (.cells ⟨[zI x.a,zI x.b,.bool x.same]⟩ 57 (0,0))):dL zT 160 [v,.func (.func 116) ⟨[]⟩ ⟨[zP b]⟩] ro (zI (cZ (C6 x) fs 0)):=by
 obtain⟨jP,Bm,Bj,iZ,rfl,HV,w9,wZ⟩:=hf
 refine bI av [] [] bB<|zD 12<|eG [1,0,1,0,0] [] (fun(zz:Nat)=>[(0,.slice jP fs.length iZ),(1,.func (.func 116) ⟨[]⟩ ⟨[zP b]⟩),(7,zI (fs.length:Int)),(8,zI (zz:Int))]) (fun(zz:Nat)=>[]) (fun(zz:Nat)=>zz≤fs.length∧cZ (C6 x) fs 0=cZ (C6 x) (fs.drop zz) zz) (fun(zz:Nat)=>fs.length-zz) 0 ⟨by omega,rfl⟩ [] ?_
 rintro k hI K1 bU rest
 refine zD 5<|zJ 9 ((k:Int) <(fs.length:Int)) (fun h1=>?_) fun h1=>?_
 ·
  refine zD 14 ?_
  obtain⟨fK,eN⟩:=zG fs k
  refine iE iZ 3 w9 eN<|jl 0 (wZ _ _ eN)<|jp (vs:=[.agg ⟨[zI fK.a,zI fK.b,.bool fK.same]⟩,zP b]) [] [] (fun aE hs hZ=>(aq7 (hs _ _ hb)))<|zD 1<|js 16 (C6 x fK) (fun h2=>?_) (fun h2=>?_)
  ·
   refine zD 7<|aJ q0 (zI (k:Int)) [] [] [] (Sub.refl _) ⟨_,_,rfl,rfl,by rw[hI.2,jF eN,show C6 x fK=true from (by assumption)];rfl,rfl⟩
  refine zD 3<|ja ((k:Int)+1) (by omega)<|zD 2<|bO bU (k+1) ⟨by omega,by rw[hI.2,jF eN,show C6 x fK=false from (by assumption)];rfl⟩ (by omega) [] (Sub.refl _)
 refine zD 7<|aJ q0 (zI (-1)) [] [] [] (Sub.refl _) ⟨_,_,rfl,rfl,by rw[hI.2,qe (by omega)],rfl⟩
theorem akh{v:Value}{x:eR}{ro:Nat→Option Obj}(hf:bL ro v 3 oK fs)(hn:fs.length≤1000)(hb:ro b=some (.cells ⟨[zI x.a,zI x.b,.bool x.same]⟩ 57 (0,0))):dL zT 115 [v,.func (.func 116) ⟨[]⟩ ⟨[zP b]⟩] ro (.bool (decide (cZ (C6 x) fs 0≥0))):=by
 obtain⟨jP,Bm,Bj,iZ,rfl,HV,w9,wZ⟩:=hf
 refine bI av [] [] bB<|zD 8<|jp (vs:=[.slice jP fs.length iZ,.func (.func 116) ⟨[]⟩ ⟨[zP b]⟩]) [] [] (fun aE hs hZ=>art ((show bL _ _ _ _ _ from ⟨jP,Bm,Bj,iZ,rfl,HV,w9,wZ⟩).up hs) (by first|omega| (simp only[List.length_set,List.length_append,List.length_cons,List.length_nil];omega)) (hs _ _ hb)) ?_
 refine zD 4<|aJ q0 (.bool (decide ((cZ (C6 x) fs 0)≥0))) [] [] [] (Sub.refl _) ⟨_,_,rfl,rfl,rfl,rfl⟩
theorem azw{x:eR}{ro:Nat→Option Obj}(hK:gG ro l K)(hO:lO K)(hp:bL ro vp 3 oK fs)(hn:fs.length≤1000)(hx:(0≤x.a∧x.a <K.before.length)∧(0≤x.b∧x.b <K.after.length))(hw:cZ (C6 x) fs 0 <0):dL zT 90 [.agg ⟨l⟩,vp,.agg ⟨[zI x.a,zI x.b,.bool x.same]⟩] ro (zI 0):=by
 obtain⟨vS,vT,vc,vh,vr,vb,va,vf,fa,fc,hv,rfl,hS,hT,p6,nA,hr,hb,ha,hf⟩:=hK
 obtain⟨ib,hs,fw⟩:=id hS
 obtain⟨iI,ht,fo⟩:=id hT
 obtain⟨hc,hh,CI⟩:=id p6
 obtain⟨mg,RV,RS,kU,rfl,RU,Kv,Ku⟩:=hs
 obtain⟨eY,zh,zf,ee,rfl,zg,rH,rG⟩:=ht
 obtain⟨eE,zk,zi,ep,rfl,Cq,xW,xV⟩:=hc
 obtain⟨dM,uy,ux,dq,rfl,wA,qv,qu⟩:=hh
 obtain⟨kI,Hq,Hp,kH,rfl,M1,EZ,EY⟩:=hr
 obtain⟨mN,QE,QB,mA,rfl,QC,Ob,Oa⟩:=hb
 obtain⟨mi,M5,M3,lS,rfl,M4,KC,KB⟩:=ha
 obtain⟨jP,Bm,Bj,iZ,rfl,HV,w9,wZ⟩:=hf
 have BN:=hO.rules
 have qp:=hO.before.1
 have Nf:=hO.after.1
 have Nd:=hO.facts.1
 have Nc:=hO.ways.1
 have Hy:=fw.len
 have Dr:=fo.len
 have V0:=hO.pO.two
 have ZN:=hO.dI.nh
 have M0:∀(i:Nat) (p:cX),([]:List cX)[i]?=some p→cA ⟨ro,[]⟩ 0 (0+i*6) 6 (mH p):=fun _ _ h=>n9 h
 obtain⟨QA,qpb,qpo,IZ,rfl,qpk,XN,XL⟩:=hp
 refine bI av [] [] bB<|zD 2<|jn fun b3=>jn fun b5=>jd 12 [0,1]<|ja ((K.before.length:Int)-1) (by omega)<|jp (vs:=[zI x.a,zI 0,zI ((K.before.length:Int)-1)]) [] [] (fun aE hs hZ=>fZ)<|zD 3<|js 7 (!(iV x.a 0 ((K.before.length:Int)-1))) (fun h1=>?_) (fun h1=>?_)
 ·
  try simp only[zB] at h1
  exfalso;simp only[iV,Bool.and_eq_false_iff,decide_eq_false_iff_not] at h1;omega
 try simp only[zB] at h1
 refine jd 7 [0,1]<|ja ((K.after.length:Int)-1) (by omega)<|jp (vs:=[zI x.b,zI 0,zI ((K.after.length:Int)-1)]) [] [] (fun aE hs hZ=>fZ)<|zD 3<|js 7 (!(iV x.b 0 ((K.after.length:Int)-1))) (fun h2=>?_) (fun h2=>?_)
 ·
  try simp only[zB] at h2
  exfalso;simp only[iV,Bool.and_eq_false_iff,decide_eq_false_iff_not] at h2;omega
 try simp only[zB] at h2
 refine zD 5<|jp (vs:=[.slice QA fs.length IZ,.func (.func 116) ⟨[]⟩ ⟨[zP b5]⟩]) [0] [(b5,.cells ⟨[zI x.a,zI x.b,.bool x.same]⟩ 57 (0,0))] (fun aE hs hZ=>akh ((show bL _ _ _ _ _ from ⟨QA,qpb,qpo,IZ,rfl,qpk,XN,XL⟩).up hs) (by first|omega| (simp only[List.length_set,List.length_append,List.length_cons,List.length_nil];omega)) hZ.head) ?_
 refine zD 2<|js 24 (decide (cZ (C6 x) fs 0≥0)) (fun h3=>?_) (fun h3=>?_)
 ·
  exfalso;have:=of_decide_eq_true h3;omega
 refine zD 7<|aJ q0 (zI 0) [] [] [] (Sub.refl _) ⟨_,_,rfl,rfl,rfl,rfl⟩
theorem axq{w:ByteArray}{ro:Nat→Option Obj}(hs:1≤w.size∧w.size≤12)(hc:cQ w (bs [99,108,97,115,115])=false)(hf:cQ w (bs [102,105,110,105,115])=false)(hK:∀b∈w.data.toList,97≤b.toNat∧b.toNat≤122):dL zT 189 [.string w] ro (.bool true):=by
 refine bI av [] [] bB<|zD 11<|jj 4 [(0,.string w),(2,.bool false),(12,.bool ((decide ((w.size:Int)=0))||(decide ((w.size:Int)>12))))] (fun gJ=>?_) (fun hj=>?_)
 rotate_left
 refine js 8 (decide ((w.size:Int)=0)) (fun h1=>?_) (fun h1=>?_)
 ·
  have gh:=h1
  replace gh:=of_decide_eq_true gh
  refine zD 4<|jw 12 (.bool ((decide ((w.size:Int)=0))||(decide ((w.size:Int)>12)))) (w:= .bool true) (by rw[h1]<;>rfl) ?_
  exact hj _ (by kernel_rfl) (by kernel_rfl)
 ·
  have gh:=h1
  replace gh:=of_decide_eq_false gh
  refine zD 4<|jw 12 (.bool ((decide ((w.size:Int)=0))||(decide ((w.size:Int)>12)))) (w:= .bool (decide ((w.size:Int)>12))) (by rw[h1]<;>rfl) ?_
  exact hj _ (by kernel_rfl) (by kernel_rfl)
 refine zD 1<|jj 3 [(0,.string w),(2,.bool false),(16,.bool (((decide ((w.size:Int)=0))||(decide ((w.size:Int)>12)))||(cQ w (bs [99,108,97,115,115]))))] (fun gJ=>?_) (fun hj=>?_)
 rotate_left
 refine js 13 ((decide ((w.size:Int)=0))||(decide ((w.size:Int)>12))) (fun h2=>?_) (fun h2=>?_)
 ·
  have mr:=h2
  try simp only[zB] at mr
  refine zD 3<|jw 16 (.bool (((decide ((w.size:Int)=0))||(decide ((w.size:Int)>12)))||(cQ w (bs [99,108,97,115,115])))) (w:= .bool true) (by rw[h2]<;>rfl) ?_
  exact hj _ (by kernel_rfl) (by kernel_rfl)
 ·
  have mr:=h2
  try simp only[zB] at mr
  refine zD 3<|jw 16 (.bool (((decide ((w.size:Int)=0))||(decide ((w.size:Int)>12)))||(cQ w (bs [99,108,97,115,115])))) (w:= .bool (cQ w (bs [99,108,97,115,115]))) (by rw[h2]<;>rfl) ?_
  exact hj _ (by kernel_rfl) (by kernel_rfl)
 refine zD 1<|jj 3 [(0,.string w),(2,.bool false),(20,.bool ((((decide ((w.size:Int)=0))||(decide ((w.size:Int)>12)))||(cQ w (bs [99,108,97,115,115])))||(cQ w (bs [102,105,110,105,115]))))] (fun gJ=>?_) (fun hj=>?_)
 rotate_left
 refine js 17 (((decide ((w.size:Int)=0))||(decide ((w.size:Int)>12)))||(cQ w (bs [99,108,97,115,115]))) (fun h3=>?_) (fun h3=>?_)
 ·
  have sD:=h3
  try simp only[zB] at sD
  refine zD 3<|jw 20 (.bool ((((decide ((w.size:Int)=0))||(decide ((w.size:Int)>12)))||(cQ w (bs [99,108,97,115,115])))||(cQ w (bs [102,105,110,105,115])))) (w:= .bool true) (by rw[h3]<;>rfl) ?_
  exact hj _ (by kernel_rfl) (by kernel_rfl)
 ·
  have sD:=h3
  try simp only[zB] at sD
  refine zD 3<|jw 20 (.bool ((((decide ((w.size:Int)=0))||(decide ((w.size:Int)>12)))||(cQ w (bs [99,108,97,115,115])))||(cQ w (bs [102,105,110,105,115])))) (w:= .bool (cQ w (bs [102,105,110,105,115]))) (by rw[h3]<;>rfl) ?_
  exact hj _ (by kernel_rfl) (by kernel_rfl)
 refine zD 1<|js 20 ((((decide ((w.size:Int)=0))||(decide ((w.size:Int)>12)))||(cQ w (bs [99,108,97,115,115])))||(cQ w (bs [102,105,110,105,115]))) (fun h4=>?_) (fun h4=>?_)
 ·
  try simp only[zB] at h4
  exfalso;simp only[hc,hf,Bool.or_false,Bool.or_eq_true,decide_eq_true_eq,Bool.false_eq_true,or_false] at h4;omega
 try simp only[zB] at h4
 refine zD 6<|jn fun r22=>zD 2<|eG [1,1,0,1,0,0] [] (fun(zz:Nat)=>[(22,zP r22)]) (fun(zz:Nat)=>[.b r22 (.stringIter w zz)]) (fun(zz:Nat)=>zz≤w.data.toList.length) (fun(zz:Nat)=>w.data.toList.length-zz) 0 (by omega) [0] ?_
 rintro p hI K1 bU rest
 refine zD 2 ?_
 cases YC:w.data.toList[p]? with
 |some uI=>
  refine jnA r22 0 YC (by have:=hK _ (List.mem_of_getElem? YC);omega) ?_
  refine zD 7 ?_
  have V1:=hK _ (List.mem_of_getElem? YC)
  refine zD 9<|jj 3 [(22,zP r22),(31,.bool ((decide ((uI.toNat:Int) <97))||(decide ((uI.toNat:Int)>122))))] (fun gJ=>?_) (fun hj=>?_)
  rotate_left
  refine js 28 (decide ((uI.toNat:Int) <97)) (fun h5=>?_) (fun h5=>?_)
  ·
   have Mb:=h5
   replace Mb:=of_decide_eq_true Mb
   refine zD 3<|jw 31 (.bool ((decide ((uI.toNat:Int) <97))||(decide ((uI.toNat:Int)>122)))) (w:= .bool true) (by rw[h5]<;>rfl) ?_
   exact hj _ (by kernel_rfl) (by kernel_rfl)
  ·
   have Mb:=h5
   replace Mb:=of_decide_eq_false Mb
   refine zD 3<|jw 31 (.bool ((decide ((uI.toNat:Int) <97))||(decide ((uI.toNat:Int)>122)))) (w:= .bool (decide ((uI.toNat:Int)>122))) (by rw[h5]<;>rfl) ?_
   exact hj _ (by kernel_rfl) (by kernel_rfl)
  refine zD 1<|js 31 ((decide ((uI.toNat:Int) <97))||(decide ((uI.toNat:Int)>122))) (fun h6=>?_) (fun h6=>?_)
  ·
   try simp only[zB] at h6
   exfalso;omega
  try simp only[zB] at h6
  refine zD 2<|bO bU (p+1) (by have:=(List.getElem?_eq_some_iff.1 YC).1;omega) (by have:=(List.getElem?_eq_some_iff.1 YC).1;omega) [0] (Sub.refl _)
 |none=>
  refine jnZ r22 0 YC<|zD 10<|aJ q0 (.bool true) [] [] [] (Sub.refl _) ⟨_,_,rfl,rfl,rfl,rfl⟩
def DE(x y:bM):Bool:=cQ y.name x.name
theorem apB{x y:bM}{ro:Nat→Option Obj}(hb:ro b=some (.cells ⟨[.string x.name,zI x.under]⟩ 130 (0,0))):dL zT 191 [.agg ⟨[.string y.name,zI y.under]⟩,zP b] ro (.bool (cQ y.name x.name)):=by
 refine bI av [] [] bB<|zD 2<|jn fun b2=>jd 7 [0]<|jl (b:=b) (off:=0) (m:=2) (vs:=[.string x.name,zI x.under]) 0 ⟨_,_,_,.inl hb,rfl⟩<|zD 4<|aJ q0 (.bool (cQ y.name x.name)) [] [] [] (Sub.refl _) ⟨_,_,rfl,rfl,rfl,rfl⟩
theorem apA{v:Value}{fs:List bM}{x:bM}{ro:Nat→Option Obj}(hf:bL ro v 2 oL fs)(hn:fs.length≤1000)(hb:ro b=some (.cells ⟨[.string x.name,zI x.under]⟩ 130 (0,0))):dL zT 214 [v,.func (.func 191) ⟨[]⟩ ⟨[zP b]⟩] ro (zI (cZ (DE x) fs 0)):=by
 obtain⟨jP,Bm,Bj,iZ,rfl,HV,w9,wZ⟩:=hf
 refine bI av [] [] bB<|zD 12<|eG [1,0,1,0,0] [] (fun(zz:Nat)=>[(0,.slice jP fs.length iZ),(1,.func (.func 191) ⟨[]⟩ ⟨[zP b]⟩),(7,zI (fs.length:Int)),(8,zI (zz:Int))]) (fun(zz:Nat)=>[]) (fun(zz:Nat)=>zz≤fs.length∧cZ (DE x) fs 0=cZ (DE x) (fs.drop zz) zz) (fun(zz:Nat)=>fs.length-zz) 0 ⟨by omega,rfl⟩ [] ?_
 rintro k hI K1 bU rest
 refine zD 5<|zJ 9 ((k:Int) <(fs.length:Int)) (fun h1=>?_) fun h1=>?_
 ·
  refine zD 14 ?_
  obtain⟨fK,eN⟩:=zG fs k
  refine iE iZ 2 w9 eN<|jl 0 (wZ _ _ eN)<|jp (vs:=[.agg ⟨[.string fK.name,zI fK.under]⟩,zP b]) [] [] (fun aE hs hZ=>(apB (y:=fK) (hs _ _ hb)))<|zD 1<|js 16 (DE x fK) (fun h2=>?_) (fun h2=>?_)
  ·
   refine zD 7<|aJ q0 (zI (k:Int)) [] [] [] (Sub.refl _) ⟨_,_,rfl,rfl,by rw[hI.2,jF eN,show DE x fK=true from (by assumption)];rfl,rfl⟩
  refine zD 3<|ja ((k:Int)+1) (by omega)<|zD 2<|bO bU (k+1) ⟨by omega,by rw[hI.2,jF eN,show DE x fK=false from (by assumption)];rfl⟩ (by omega) [] (Sub.refl _)
 refine zD 7<|aJ q0 (zI (-1)) [] [] [] (Sub.refl _) ⟨_,_,rfl,rfl,by rw[hI.2,qe (by omega)],rfl⟩
theorem aiY{v:Value}{fs:List bM}{x:bM}{ro:Nat→Option Obj}(hf:bL ro v 2 oL fs)(hn:fs.length≤1000)(hb:ro b=some (.cells ⟨[.string x.name,zI x.under]⟩ 130 (0,0))):dL zT 190 [v,.func (.func 191) ⟨[]⟩ ⟨[zP b]⟩] ro (.bool (decide (cZ (DE x) fs 0≥0))):=by
 obtain⟨jP,Bm,Bj,iZ,rfl,HV,w9,wZ⟩:=hf
 refine bI av [] [] bB<|zD 8<|jp (vs:=[.slice jP fs.length iZ,.func (.func 191) ⟨[]⟩ ⟨[zP b]⟩]) [] [] (fun aE hs hZ=>apA ((show bL _ _ _ _ _ from ⟨jP,Bm,Bj,iZ,rfl,HV,w9,wZ⟩).up hs) (by first|omega| (simp only[List.length_set,List.length_append,List.length_cons,List.length_nil];omega)) (hs _ _ hb)) ?_
 refine zD 4<|aJ q0 (.bool (decide ((cZ (DE x) fs 0)≥0))) [] [] [] (Sub.refl _) ⟨_,_,rfl,rfl,rfl,rfl⟩
def ZS(x y:bA):Bool:=cQ y.word x.word
theorem axy{x y:bA}{ro:Nat→Option Obj}(hb:ro b=some (.cells ⟨[.string x.word,zI x.cls,zI x.nY,x.ei]⟩ 133 (0,0))):dL zT 194 [.agg ⟨[.string y.word,zI y.cls,zI y.nY,y.ei]⟩,zP b] ro (.bool (cQ y.word x.word)):=by
 refine bI av [] [] bB<|zD 2<|jn fun b2=>jd 7 [0]<|jl (b:=b) (off:=0) (m:=4) (vs:=[.string x.word,zI x.cls,zI x.nY,x.ei]) 0 ⟨_,_,_,.inl hb,rfl⟩<|zD 4<|aJ q0 (.bool (cQ y.word x.word)) [] [] [] (Sub.refl _) ⟨_,_,rfl,rfl,rfl,rfl⟩
theorem axx{v:Value}{fs:List bA}{x:bA}{ro:Nat→Option Obj}(hf:bL ro v 4 lZ fs)(hn:fs.length≤1000)(hb:ro b=some (.cells ⟨[.string x.word,zI x.cls,zI x.nY,x.ei]⟩ 133 (0,0))):dL zT 215 [v,.func (.func 194) ⟨[]⟩ ⟨[zP b]⟩] ro (zI (cZ (ZS x) fs 0)):=by
 obtain⟨jP,Bm,Bj,iZ,rfl,HV,w9,wZ⟩:=hf
 refine bI av [] [] bB<|zD 12<|eG [1,0,1,0,0] [] (fun(zz:Nat)=>[(0,.slice jP fs.length iZ),(1,.func (.func 194) ⟨[]⟩ ⟨[zP b]⟩),(7,zI (fs.length:Int)),(8,zI (zz:Int))]) (fun(zz:Nat)=>[]) (fun(zz:Nat)=>zz≤fs.length∧cZ (ZS x) fs 0=cZ (ZS x) (fs.drop zz) zz) (fun(zz:Nat)=>fs.length-zz) 0 ⟨by omega,rfl⟩ [] ?_
 rintro k hI K1 bU rest
 refine zD 5<|zJ 9 ((k:Int) <(fs.length:Int)) (fun h1=>?_) fun h1=>?_
 ·
  refine zD 14 ?_
  obtain⟨fK,eN⟩:=zG fs k
  refine iE iZ 4 w9 eN<|jl 0 (wZ _ _ eN)<|jp (vs:=[.agg ⟨[.string fK.word,zI fK.cls,zI fK.nY,fK.ei]⟩,zP b]) [] [] (fun aE hs hZ=>(axy (y:=fK) (hs _ _ hb)))<|zD 1<|js 16 (ZS x fK) (fun h2=>?_) (fun h2=>?_)
  ·
   refine zD 7<|aJ q0 (zI (k:Int)) [] [] [] (Sub.refl _) ⟨_,_,rfl,rfl,by rw[hI.2,jF eN,show ZS x fK=true from (by assumption)];rfl,rfl⟩
  refine zD 3<|ja ((k:Int)+1) (by omega)<|zD 2<|bO bU (k+1) ⟨by omega,by rw[hI.2,jF eN,show ZS x fK=false from (by assumption)];rfl⟩ (by omega) [] (Sub.refl _)
 refine zD 7<|aJ q0 (zI (-1)) [] [] [] (Sub.refl _) ⟨_,_,rfl,rfl,by rw[hI.2,qe (by omega)],rfl⟩
theorem apx{v:Value}{fs:List bA}{x:bA}{ro:Nat→Option Obj}(hf:bL ro v 4 lZ fs)(hn:fs.length≤1000)(hb:ro b=some (.cells ⟨[.string x.word,zI x.cls,zI x.nY,x.ei]⟩ 133 (0,0))):dL zT 193 [v,.func (.func 194) ⟨[]⟩ ⟨[zP b]⟩] ro (.bool (decide (cZ (ZS x) fs 0≥0))):=by
 obtain⟨jP,Bm,Bj,iZ,rfl,HV,w9,wZ⟩:=hf
 refine bI av [] [] bB<|zD 8<|jp (vs:=[.slice jP fs.length iZ,.func (.func 194) ⟨[]⟩ ⟨[zP b]⟩]) [] [] (fun aE hs hZ=>axx ((show bL _ _ _ _ _ from ⟨jP,Bm,Bj,iZ,rfl,HV,w9,wZ⟩).up hs) (by first|omega| (simp only[List.length_set,List.length_append,List.length_cons,List.length_nil];omega)) (hs _ _ hb)) ?_
 refine zD 4<|aJ q0 (.bool (decide ((cZ (ZS x) fs 0)≥0))) [] [] [] (Sub.refl _) ⟨_,_,rfl,rfl,rfl,rfl⟩
def y5(w:ByteArray):Bool:=Nat.ble 1 w.size&&(Nat.ble w.size 12&&(!cQ w (bs [99,108,97,115,115])&&(!cQ w (bs [102,105,110,105,115])&&w.data.toList.all fun b=>Nat.ble 97 b.toNat&&Nat.ble b.toNat 122)))
theorem Xn:∀w∈nj,y5 w=true:=List.all_eq_true.1 (by kernel_rfl)
theorem Zg:∀w∈oS,y5 w=true:=List.all_eq_true.1 (by kernel_rfl)
theorem aa3{w:ByteArray}{ro:Nat→Option Obj}(h:y5 w=true):dL zT 189 [.string w] ro (.bool true):=by
 simp only[y5,Bool.and_eq_true,Nat.ble_eq,Bool.not_eq_true',List.all_eq_true] at h
 exact axq ⟨h.1,h.2.1⟩ h.2.2.1 h.2.2.2.1 h.2.2.2.2
structure lg(cs:List bM)(hd:List cw):Prop where
 nc:0 <cs.length∧cs.length≤6
 nh:hd.length≤6
 cls:∀(i:Nat) (c:bM),cs[i]?=some c→y5 c.name=true∧ -1≤c.under∧c.under <i
 names:(cs.map (·.name)).Pairwise fun a b=>cQ a b=false
 Ad:∀(i:Nat) (x:cw),hd[i]?=some x→y5 x.word=true∧gI cs.length hd.length i x
 words:(hd.map (·.word)).Pairwise fun a b=>cQ a b=false∧strLt b a=false
theorem wh.v(h:wh cs hd):lg cs hd:=
 ⟨⟨h.nc.1,by have:=h.nc.2;omega⟩,by have:=h.nh;omega,fun i c hc=>⟨Xn _ (h.cls i c hc).1,(h.cls i c hc).2⟩,h.names,fun i x hx=>⟨Zg _ (h.Ad i x hx).1,(h.Ad i x hx).2⟩,h.words⟩
theorem P3{α:Type}{p:α→α→Bool}{l:List α}{x:α}(h:l.Pairwise fun y x=>p x y=false)(hx:l[i]?=some x):cZ (p x) (l.take i) 0 <0:=by
 rw[BW]
 ·omega
 intro y hy
 obtain⟨j,hj⟩:=List.getElem?_of_mem hy
 rw[List.getElem?_take] at hj
 split at hj
 ·rename_i yT
  exact pN h yT hj hx
 cases hj
theorem alO{x:bM}(h:lg cs hd)(hx:cs[i]?=some x):cZ (DE x) (cs.take i) 0 <0:=
 P3 (p:=DE) (List.pairwise_map.1 h.names) hx
theorem Nt{hv:List bA}(h:du dj hv hd):hv.map (·.word)=hd.map (·.word):=by
 induction h with
 |nil=>rfl
 |cons h1 _ ih=>simp only[List.map_cons,h1.1,ih]
theorem atr{hv:List bA}{x:bA}(h:lg cs hd)(hs:du dj hv hd)(hx:hv[i]?=some x):cZ (ZS x) (hv.take i) 0 <0:=
 P3 (p:=ZS) ((List.pairwise_map.1 (Nt hs▸h.words)).imp fun h=>h.1) hx
theorem aBw{hv:List bA}{j:Nat}{x y:bA}(h:lg cs hd)(hs:du dj hv hd)(HA:j <i)(hx:hv[i]?=some x) (hy:hv[j]?=some y):strLt x.word y.word=false:=
 (pN (List.pairwise_map.1 (Nt hs▸h.words)) HA hy hx).2
theorem abj{ro:Nat→Option Obj}{nc nh:Nat}{x:bA}{y:cw}(h:gI nc nh i y)(hr:qW ro x y):
 (-1≤x.cls∧x.cls <nc)∧(-1≤x.nY∧x.nY <nh∧x.nY≠i)∧(y.ei.length≤nh∧y.ei.Pairwise (· < ·)∧∀z∈y.ei,0≤z∧z <nh∧z≠i)∧(x.nY≠ -1→x.cls= -1∧y.ei.length=0)∧(x.nY= -1→x.cls= -1→y.ei.length≠0):=by
 rw[hr.2.1,hr.2.2.1]
 exact⟨h.1,h.2.1,h.2.2.1,fun a=>⟨(h.2.2.2.1 a).1,by rw[(h.2.2.2.1 a).2];rfl⟩,fun a b c=>h.2.2.2.2 a b (List.eq_nil_of_length_eq_zero c)⟩
theorem apD{v:Value}{ro:Nat→Option Obj}(hc:bL ro v 2 oL cs)(hT:lg cs hd)(hi:i <cs.length):dL zT 155 [v,zI (i:Int)] ro (zI 0):=by
 obtain⟨eE,zk,zi,ep,rfl,Cq,xW,xV⟩:=hc
 have CE:=hT.nc
 refine bI av [] [] bB<|zD 8 ?_
 obtain⟨x8,hx8⟩:=zG cs i
 refine iE ep 2 xW hx8<|jl 0 (xV _ _ hx8)<|jn fun b5=>jd 5 [0] ?_
 have iG:=hT.cls _ _ hx8
 have hcn:cZ (DE x8) (cs.take (i:Int).toNat) 0 <0:=alO hT hx8
 have htk:(cs.take (i:Int).toNat).length≤cs.length:=by rw[List.length_take];omega
 refine jd 3 [0]<|jp (vs:=[.string x8.name]) [] [] (fun aE hs hZ=>(aa3 iG.1))<|zD 8<|jcH (hi:=(i:Int)) (show bL _ _ _ _ _ from ⟨eE,zk,zi,ep,rfl,Cq,xW,xV⟩) (by omega) (fun v18 ar6=>?_)
 obtain⟨am6,ayh,ayd,am5,rfl,ayf,ayg,aye⟩:=ar6
 refine zD 1<|jp (vs:=[.slice am6 ((((cs).take (i:Int).toNat)).length) am5,.func (.func 191) ⟨[]⟩ ⟨[zP b5]⟩]) [0] [(b5,.cells ⟨[.string x8.name,zI x8.under]⟩ 130 (0,0))] (fun aE hs hZ=>aiY (x:=x8) ((show bL _ _ _ _ _ from ⟨am6,ayh,ayd,am5,rfl,ayf,ayg,aye⟩).up hs) (by first|omega| (simp only[List.length_set,List.length_append,List.length_cons,List.length_nil];omega)) hZ.head) ?_
 refine zD 2<|js 15 (decide (cZ (DE x8) ((cs).take (i:Int).toNat) 0≥0)) (fun h1=>?_) (fun h1=>?_)
 ·
  exfalso;have:=of_decide_eq_true h1;omega
 refine jd 7 [0]<|ja ((cs.length:Int)-1) (by omega)<|jp (vs:=[zI x8.under,zI (-1),zI ((cs.length:Int)-1)]) [] [] (fun aE hs hZ=>iW)<|zD 3<|js 21 (!(iV x8.under (-1) ((cs.length:Int)-1))) (fun h2=>?_) (fun h2=>?_)
 ·
  try simp only[zB] at h2
  exfalso;simp only[iV,Bool.and_eq_false_iff,decide_eq_false_iff_not] at h2;omega
 try simp only[zB] at h2
 refine jd 9 [0]<|zJ 29 (x8.under≥(i:Int)) (fun h3=>?_) fun h3=>?_
 ·
  exfalso;omega
 refine zD 7<|aJ q0 (zI 0) [] [] [] (Sub.refl _) ⟨_,_,rfl,rfl,rfl,rfl⟩
theorem axw{hv:List bA}{ro:Nat→Option Obj}(hR:iX ro vc vh cs hv hd)(nA:du dj hv hd)(hT:lg cs hd)(hi:i <hv.length):dL zT 156 [.agg ⟨[vc,vh]⟩,zI (i:Int)] ro (zI 0):=by
 obtain⟨hc,hh,dr⟩:=id hR
 obtain⟨eE,zk,zi,ep,rfl,Cq,xW,xV⟩:=hc
 obtain⟨dM,uy,ux,dq,rfl,wA,qv,qu⟩:=hh
 have CE:=hT.nc
 have hnh:=hT.nh
 have hlen:=nA.len
 refine bI av [] [] bB<|zD 2<|jn fun b2=>jd 9 [0,0] ?_
 obtain⟨fK,eN⟩:=zG hv i
 refine iE dq 4 qv eN<|jl 0 (qu _ _ eN)<|aN 7 fun C1 C7 AT=>jn fun b6=>bD AT [1]<|zD 1<|aN 9 fun AY A5 Ah=>jsx 0 b6 0 [.string ByteArray.empty,zI 0,zI 0,zS] [.string fK.word,zI fK.cls,zI fK.nY,fK.ei] 133 (mC dr _ (List.mem_of_getElem? eN)) rfl<|dV Ah<|zD 4 ?_
 obtain⟨DN,azN,asd⟩:=dr.get eN
 obtain⟨fC,rj,ri,eV,hqe,tj,lB,mz⟩:=asd.2.2.2
 have aOh:=(hT.Ad _ _ azN).1
 have hsh:=abj (hT.Ad _ _ azN).2 asd
 obtain⟨cy,pY,Ht,kN,hs5⟩:=hsh
 have hwb:y5 fK.word=true:=by rw[asd.1];exact aOh
 have hcn:cZ (ZS fK) (hv.take (i:Int).toNat) 0 <0:=atr hT nA eN
 have htk:(hv.take (i:Int).toNat).length≤hv.length:=by rw[List.length_take];omega
 refine jmw 0 [.b b6 (.cells ⟨[.string fK.word,zI fK.cls,zI fK.nY,.slice fC DN.ei.length eV]⟩ 133 (0,0))] (L:=[(b6,.cells ⟨[.string fK.word,zI fK.cls,zI fK.nY,fK.ei]⟩ 133 (0,0))]) (by rw[hqe];rfl) ?_
 refine jd 3 [0]<|jp (vs:=[.string fK.word]) [] [] (fun aE hs hZ=>(aa3 hwb))<|zD 8<|jcH (hi:=(i:Int)) (show bL _ _ _ _ _ from ⟨dM,uy,ux,dq,rfl,wA,qv,qu⟩) (by omega) (fun v24 aOC=>?_)
 obtain⟨am4,ayc,ax8,am3,rfl,aya,ayb,ax9⟩:=aOC
 refine zD 1<|jp (vs:=[.slice am4 ((((hv).take (i:Int).toNat)).length) am3,.func (.func 194) ⟨[]⟩ ⟨[zP b6]⟩]) [0] [(b6,.cells ⟨[.string fK.word,zI fK.cls,zI fK.nY,.slice fC DN.ei.length eV]⟩ 133 (0,0))] (fun aE hs hZ=>apx (x:=fK) ((show bL _ _ _ _ _ from ⟨am4,ayc,ax8,am3,rfl,aya,ayb,ax9⟩).up hs) (by first|omega| (simp only[List.length_set,List.length_append,List.length_cons,List.length_nil];omega)) (by rw[hqe];exact hZ.head)) ?_
 refine zD 2<|js 21 (decide (cZ (ZS fK) ((hv).take (i:Int).toNat) 0≥0)) (fun h3=>?_) (fun h3=>?_)
 ·
  exfalso;have:=of_decide_eq_true h3;omega
 refine zD 6<|js 2 (decide ((i:Int)>0)) (fun h4=>?_) (fun h4=>?_)
 ·
  have xw:=h4
  replace xw:=of_decide_eq_true xw
  refine jd 4 [0]<|ja ((i:Int)-1) (by omega) ?_
  obtain⟨x36,yj⟩:=zG hv (((i:Int)-1).toNat)
  refine M7 ((i:Int)-1) dq 4 qv yj (by omega)<|zD 1<|jl 0 (qu _ _ yj)<|zD 4<|js 27 (strLt fK.word x36.word) (fun h5=>?_) (fun h5=>?_)
  ·
   exfalso;rw[aBw hT nA (by omega) eN yj] at h5;cases h5
  refine jd 9 [0,1]<|ja ((cs.length:Int)-1) (by omega)<|jp (vs:=[zI fK.cls,zI (-1),zI ((cs.length:Int)-1)]) [] [] (fun aE hs hZ=>iW)<|zD 3<|js 41 (!(iV fK.cls (-1) ((cs.length:Int)-1))) (fun h6=>?_) (fun h6=>?_)
  ·
   try simp only[zB] at h6
   exfalso;simp only[iV,Bool.and_eq_false_iff,decide_eq_false_iff_not] at h6;omega
  try simp only[zB] at h6
  refine jd 6 [0]<|ja ((hv.length:Int)-1) (by omega)<|jp (vs:=[zI fK.nY,zI (-1),zI ((hv.length:Int)-1)]) [] [] (fun aE hs hZ=>iW)<|zD 3<|js 41 (!(iV fK.nY (-1) ((hv.length:Int)-1))) (fun h7=>?_) (fun h7=>?_)
  ·
   try simp only[zB] at h7
   exfalso;simp only[iV,Bool.and_eq_false_iff,decide_eq_false_iff_not] at h7;omega
  try simp only[zB] at h7
  refine jd 9 [0]<|zJ 57 (fK.nY=(i:Int)) (fun h8=>?_) fun h8=>?_
  ·
   exfalso;omega
  refine jd 11 [0]<|eG [1,1,1,0,1,0,0] [] (fun(zz:Nat)=>[(1,zI (i:Int)),(5,.slice dM hv.length dq),(6,zP b6),(63,.slice fC DN.ei.length eV),(64,zI (DN.ei.length:Int)),(65,zI (zz:Int))]) (fun(zz:Nat)=>[.b b6 (.cells ⟨[.string fK.word,zI fK.cls,zI fK.nY,.slice fC DN.ei.length eV]⟩ 133 (0,0))]) (fun(zz:Nat)=>zz≤DN.ei.length) (fun(zz:Nat)=>DN.ei.length-zz) 0 (by omega) [0] ?_
  rintro k hI K3 ZW rest
  refine zD 5<|zJ 66 ((k:Int) <(DN.ei.length:Int)) (fun h9=>?_) fun h9=>?_
  ·
   refine zD 7 ?_
   obtain⟨x68,Ln⟩:=zG DN.ei k
   refine iE eV 1 lB Ln<|jl 0 (mz _ _ Ln)<|zD 5 ?_
   have aRe:=Ht.2.2 _ (List.mem_of_getElem? Ln)
   refine zD 4<|ja ((hv.length:Int)-1) (by omega)<|jp (vs:=[zI x68,zI 0,zI ((hv.length:Int)-1)]) [] [] (fun aE hs hZ=>iW)<|zD 3<|js 70 (!(iV x68 0 ((hv.length:Int)-1))) (fun ZZ=>?_) (fun ZZ=>?_)
   ·
    try simp only[zB] at ZZ
    exfalso;simp only[iV,Bool.and_eq_false_iff,decide_eq_false_iff_not] at ZZ;omega
   try simp only[zB] at ZZ
   refine zD 8<|zJ 77 (x68=(i:Int)) (fun YR=>?_) fun YR=>?_
   ·
    exfalso;omega
   refine zD 6<|js 84 (decide ((k:Int)>0)) (fun HH=>?_) (fun HH=>?_)
   ·
    have afV:=HH
    replace afV:=of_decide_eq_true afV
    refine jd 4 [0]<|ja ((k:Int)-1) (by omega) ?_
    obtain⟨x90,SD⟩:=zG DN.ei (((k:Int)-1).toNat)
    refine M7 ((k:Int)-1) eV 1 lB SD (by omega)<|jl 0 (mz _ _ SD)<|zD 4<|zJ 81 (x68≤x90) (fun AV=>?_) fun AV=>?_
    ·
     exfalso;have:=pN Ht.2.1 (show ((k:Int)-1).toNat <k by omega) SD Ln;omega
    refine zD 3<|ja ((k:Int)+1) (by omega)<|zD 2<|bO ZW (k+1) (by omega) (by omega) [0] (Sub.refl _)
   have afV:=HH
   replace afV:=of_decide_eq_false afV
   refine zD 14<|ja ((k:Int)+1) (by omega)<|zD 2<|bO ZW (k+1) (by omega) (by omega) [0] (Sub.refl _)
  refine jd 9 [0]<|js 98 (!decide (fK.nY=(-1))) (fun PI=>?_) (fun PI=>?_)
  ·
   have Gv:=PI
   replace Gv:=of_decide_eq_false (by simpa using Gv)
   refine jd 4 [0]<|js 102 (!decide (fK.cls=(-1))) (fun Dw=>?_) (fun Dw=>?_)
   ·
    have Gu:=Dw
    replace Gu:=of_decide_eq_false (by simpa using Gu)
    refine zD 29 ?_
    exfalso;omega
   have Gu:=Dw
   replace Gu:=of_decide_eq_true (by simpa using Gu)
   refine jd 7 [0]<|js 109 (decide ((DN.ei.length:Int)>0)) (fun Ii=>?_) (fun Ii=>?_)
   ·
    have afT:=Ii
    replace afT:=of_decide_eq_true afT
    refine zD 22 ?_
    exfalso;omega
   have afT:=Ii
   replace afT:=of_decide_eq_false afT
   refine jd 4 [0]<|js 113 (decide (fK.nY=(-1))) (fun YQ=>?_) (fun YQ=>?_)
   ·
    have Gt:=YQ
    replace Gt:=of_decide_eq_true Gt
    refine jd 5 [0]<|js 118 (decide (fK.cls=(-1))) (fun Ts=>?_) (fun Ts=>?_)
    ·
     have Gs:=Ts
     replace Gs:=of_decide_eq_true Gs
     refine jd 7 [0]<|zJ 124 ((DN.ei.length:Int)=0) (fun Wh=>?_) fun Wh=>?_
     ·
      exfalso;(try simp only[Bool.or_eq_true,Bool.and_eq_true,decide_eq_true_eq,Bool.not_eq_true',decide_eq_false_iff_not] at Wh);omega
     refine zD 7<|aJ q0 (zI 0) [] [] [] (Sub.refl _) ⟨_,_,rfl,rfl,rfl,rfl⟩
    have Gs:=Ts
    replace Gs:=of_decide_eq_false Gs
    refine zD 14<|aJ q0 (zI 0) [] [] [] (Sub.refl _) ⟨_,_,rfl,rfl,rfl,rfl⟩
   have Gt:=YQ
   replace Gt:=of_decide_eq_false Gt
   refine zD 19<|aJ q0 (zI 0) [] [] [] (Sub.refl _) ⟨_,_,rfl,rfl,rfl,rfl⟩
  have Gv:=PI
  replace Gv:=of_decide_eq_true (by simpa using Gv)
  refine jd 15 [0]<|js 113 (decide (fK.nY=(-1))) (fun h20=>?_) (fun h20=>?_)
  ·
   have Gr:=h20
   replace Gr:=of_decide_eq_true Gr
   refine jd 5 [0]<|js 118 (decide (fK.cls=(-1))) (fun h21=>?_) (fun h21=>?_)
   ·
    have Gq:=h21
    replace Gq:=of_decide_eq_true Gq
    refine jd 7 [0]<|zJ 124 ((DN.ei.length:Int)=0) (fun Ef=>?_) fun Ef=>?_
    ·
     exfalso;(try simp only[Bool.or_eq_true,Bool.and_eq_true,decide_eq_true_eq,Bool.not_eq_true',decide_eq_false_iff_not] at Ef);omega
    refine zD 7<|aJ q0 (zI 0) [] [] [] (Sub.refl _) ⟨_,_,rfl,rfl,rfl,rfl⟩
   have Gq:=h21
   replace Gq:=of_decide_eq_false Gq
   refine zD 14<|aJ q0 (zI 0) [] [] [] (Sub.refl _) ⟨_,_,rfl,rfl,rfl,rfl⟩
  have Gr:=h20
  replace Gr:=of_decide_eq_false Gr
  refine zD 19<|aJ q0 (zI 0) [] [] [] (Sub.refl _) ⟨_,_,rfl,rfl,rfl,rfl⟩
 have xw:=h4
 replace xw:=of_decide_eq_false xw
 refine jd 21 [0,1]<|ja ((cs.length:Int)-1) (by omega)<|jp (vs:=[zI fK.cls,zI (-1),zI ((cs.length:Int)-1)]) [] [] (fun aE hs hZ=>iW)<|zD 3<|js 41 (!(iV fK.cls (-1) ((cs.length:Int)-1))) (fun AU=>?_) (fun AU=>?_)
 ·
  try simp only[zB] at AU
  exfalso;simp only[iV,Bool.and_eq_false_iff,decide_eq_false_iff_not] at AU;omega
 try simp only[zB] at AU
 refine jd 6 [0]<|ja ((hv.length:Int)-1) (by omega)<|jp (vs:=[zI fK.nY,zI (-1),zI ((hv.length:Int)-1)]) [] [] (fun aE hs hZ=>iW)<|zD 3<|js 41 (!(iV fK.nY (-1) ((hv.length:Int)-1))) (fun ZY=>?_) (fun ZY=>?_)
 ·
  try simp only[zB] at ZY
  exfalso;simp only[iV,Bool.and_eq_false_iff,decide_eq_false_iff_not] at ZY;omega
 try simp only[zB] at ZY
 refine jd 9 [0]<|zJ 57 (fK.nY=(i:Int)) (fun YP=>?_) fun YP=>?_
 ·
  exfalso;omega
 refine jd 11 [0]<|eG [1,1,1,0,1,0,0] [] (fun(zz:Nat)=>[(1,zI (i:Int)),(5,.slice dM hv.length dq),(6,zP b6),(63,.slice fC DN.ei.length eV),(64,zI (DN.ei.length:Int)),(65,zI (zz:Int))]) (fun(zz:Nat)=>[.b b6 (.cells ⟨[.string fK.word,zI fK.cls,zI fK.nY,.slice fC DN.ei.length eV]⟩ 133 (0,0))]) (fun(zz:Nat)=>zz≤DN.ei.length) (fun(zz:Nat)=>DN.ei.length-zz) 0 (by omega) [0] ?_
 rintro k hI K4 hK4 rest
 refine zD 5<|zJ 66 ((k:Int) <(DN.ei.length:Int)) (fun YO=>?_) fun YO=>?_
 ·
  refine zD 7 ?_
  obtain⟨x68,Ln⟩:=zG DN.ei k
  refine iE eV 1 lB Ln<|jl 0 (mz _ _ Ln)<|zD 5 ?_
  have aRe:=Ht.2.2 _ (List.mem_of_getElem? Ln)
  refine zD 4<|ja ((hv.length:Int)-1) (by omega)<|jp (vs:=[zI x68,zI 0,zI ((hv.length:Int)-1)]) [] [] (fun aE hs hZ=>iW)<|zD 3<|js 70 (!(iV x68 0 ((hv.length:Int)-1))) (fun h27=>?_) (fun h27=>?_)
  ·
   try simp only[zB] at h27
   exfalso;simp only[iV,Bool.and_eq_false_iff,decide_eq_false_iff_not] at h27;omega
  try simp only[zB] at h27
  refine zD 8<|zJ 77 (x68=(i:Int)) (fun YN=>?_) fun YN=>?_
  ·
   exfalso;omega
  refine zD 6<|js 84 (decide ((k:Int)>0)) (fun h29=>?_) (fun h29=>?_)
  ·
   have afJ:=h29
   replace afJ:=of_decide_eq_true afJ
   refine jd 4 [0]<|ja ((k:Int)-1) (by omega) ?_
   obtain⟨x90,SD⟩:=zG DN.ei (((k:Int)-1).toNat)
   refine M7 ((k:Int)-1) eV 1 lB SD (by omega)<|jl 0 (mz _ _ SD)<|zD 4<|zJ 81 (x68≤x90) (fun h30=>?_) fun h30=>?_
   ·
    exfalso;have:=pN Ht.2.1 (show ((k:Int)-1).toNat <k by omega) SD Ln;omega
   refine zD 3<|ja ((k:Int)+1) (by omega)<|zD 2<|bO hK4 (k+1) (by omega) (by omega) [0] (Sub.refl _)
  have afJ:=h29
  replace afJ:=of_decide_eq_false afJ
  refine zD 14<|ja ((k:Int)+1) (by omega)<|zD 2<|bO hK4 (k+1) (by omega) (by omega) [0] (Sub.refl _)
 refine jd 9 [0]<|js 98 (!decide (fK.nY=(-1))) (fun h31=>?_) (fun h31=>?_)
 ·
  have afG:=h31
  replace afG:=of_decide_eq_false (by simpa using afG)
  refine jd 4 [0]<|js 102 (!decide (fK.cls=(-1))) (fun h32=>?_) (fun h32=>?_)
  ·
   have afF:=h32
   replace afF:=of_decide_eq_false (by simpa using afF)
   refine zD 29 ?_
   exfalso;omega
  have afF:=h32
  replace afF:=of_decide_eq_true (by simpa using afF)
  refine jd 7 [0]<|js 109 (decide ((DN.ei.length:Int)>0)) (fun h33=>?_) (fun h33=>?_)
  ·
   have afE:=h33
   replace afE:=of_decide_eq_true afE
   refine zD 22 ?_
   exfalso;omega
  have afE:=h33
  replace afE:=of_decide_eq_false afE
  refine jd 4 [0]<|js 113 (decide (fK.nY=(-1))) (fun h34=>?_) (fun h34=>?_)
  ·
   have afD:=h34
   replace afD:=of_decide_eq_true afD
   refine jd 5 [0]<|js 118 (decide (fK.cls=(-1))) (fun h35=>?_) (fun h35=>?_)
   ·
    have afC:=h35
    replace afC:=of_decide_eq_true afC
    refine jd 7 [0]<|zJ 124 ((DN.ei.length:Int)=0) (fun h36=>?_) fun h36=>?_
    ·
     exfalso;(try simp only[Bool.or_eq_true,Bool.and_eq_true,decide_eq_true_eq,Bool.not_eq_true',decide_eq_false_iff_not] at h36);omega
    refine zD 7<|aJ q0 (zI 0) [] [] [] (Sub.refl _) ⟨_,_,rfl,rfl,rfl,rfl⟩
   have afC:=h35
   replace afC:=of_decide_eq_false afC
   refine zD 14<|aJ q0 (zI 0) [] [] [] (Sub.refl _) ⟨_,_,rfl,rfl,rfl,rfl⟩
  have afD:=h34
  replace afD:=of_decide_eq_false afD
  refine zD 19<|aJ q0 (zI 0) [] [] [] (Sub.refl _) ⟨_,_,rfl,rfl,rfl,rfl⟩
 have afG:=h31
 replace afG:=of_decide_eq_true (by simpa using afG)
 refine jd 15 [0]<|js 113 (decide (fK.nY=(-1))) (fun h37=>?_) (fun h37=>?_)
 ·
  have afB:=h37
  replace afB:=of_decide_eq_true afB
  refine jd 5 [0]<|js 118 (decide (fK.cls=(-1))) (fun h38=>?_) (fun h38=>?_)
  ·
   have afA:=h38
   replace afA:=of_decide_eq_true afA
   refine jd 7 [0]<|zJ 124 ((DN.ei.length:Int)=0) (fun ZX=>?_) fun ZX=>?_
   ·
    exfalso;(try simp only[Bool.or_eq_true,Bool.and_eq_true,decide_eq_true_eq,Bool.not_eq_true',decide_eq_false_iff_not] at ZX);omega
   refine zD 7<|aJ q0 (zI 0) [] [] [] (Sub.refl _) ⟨_,_,rfl,rfl,rfl,rfl⟩
  have afA:=h38
  replace afA:=of_decide_eq_false afA
  refine zD 14<|aJ q0 (zI 0) [] [] [] (Sub.refl _) ⟨_,_,rfl,rfl,rfl,rfl⟩
 have afB:=h37
 replace afB:=of_decide_eq_false afB
 refine zD 19<|aJ q0 (zI 0) [] [] [] (Sub.refl _) ⟨_,_,rfl,rfl,rfl,rfl⟩
theorem UJ{hv:List bA}{ro:Nat→Option Obj}(hR:iX ro vc vh cs hv hd)(nA:du dj hv hd)(hT:lg cs hd):dL zT 112 [.agg ⟨[vc,vh]⟩] ro (zI 0):=by
 obtain⟨hc,hh,dr⟩:=id hR
 obtain⟨eE,zk,zi,ep,rfl,Cq,xW,xV⟩:=hc
 obtain⟨dM,uy,ux,dq,rfl,wA,qv,qu⟩:=hh
 have CE:=hT.nc
 have hnh:=hT.nh
 have hlen:=nA.len
 refine bI av [] [] bB<|zD 2<|jn fun b1=>jd 10 [0]<|jj 5 [(1,zP b1),(2,zI 0),(16,.bool ((decide ((cs.length:Int)>6))||(decide ((hv.length:Int)>6))))] (fun gJ=>?_) (fun hj=>?_)
 rotate_left
 refine js 11 (decide ((cs.length:Int)>6)) (fun h1=>?_) (fun h1=>?_)
 ·
  have gh:=h1
  replace gh:=of_decide_eq_true gh
  refine zD 5<|jw 16 (.bool ((decide ((cs.length:Int)>6))||(decide ((hv.length:Int)>6)))) (w:= .bool true) (by rw[h1]<;>rfl) ?_
  exact hj _ (by kernel_rfl) (by kernel_rfl)
 ·
  have gh:=h1
  replace gh:=of_decide_eq_false gh
  refine jd 5 [0]<|jw 16 (.bool ((decide ((cs.length:Int)>6))||(decide ((hv.length:Int)>6)))) (w:= .bool (decide ((hv.length:Int)>6))) (by rw[h1]<;>rfl) ?_
  exact hj _ (by kernel_rfl) (by kernel_rfl)
 refine zD 1<|js 16 ((decide ((cs.length:Int)>6))||(decide ((hv.length:Int)>6))) (fun h2=>?_) (fun h2=>?_)
 ·
  try simp only[zB] at h2
  exfalso;omega
 try simp only[zB] at h2
 refine jd 11 [0]<|eG [1,1,0,1,0,0] [] (fun(zz:Nat)=>[(1,zP b1),(19,zI (cs.length:Int)),(20,zI (zz:Int))]) (fun(zz:Nat)=>[.b b1 (.cells ⟨[.slice eE cs.length ep,.slice dM hv.length dq]⟩ 33 (0,0))]) (fun(zz:Nat)=>zz≤cs.length) (fun(zz:Nat)=>cs.length-zz) 0 (by omega) [0] ?_
 rintro k hI K1 bU rest
 refine zD 5<|zJ 21 ((k:Int) <(cs.length:Int)) (fun h3=>?_) fun h3=>?_
 ·
  refine jd 14 [0]<|jp (vs:=[.slice eE cs.length ep,zI (k:Int)]) [] [] (fun aE hs hZ=>apD ((show bL _ _ _ _ _ from ⟨eE,zk,zi,ep,rfl,Cq,xW,xV⟩).up hs) hT (by omega))<|zD 10<|ja ((k:Int)+1) (by omega)<|zD 2<|bO bU (k+1) (by omega) (by omega) [0] (Sub.refl _)
 refine jd 11 [0]<|eG [1,1,1,0,1,0,0] [] (fun(zz:Nat)=>[(1,zP b1),(33,zI (hv.length:Int)),(34,zI (zz:Int))]) (fun(zz:Nat)=>[.b b1 (.cells ⟨[.slice eE cs.length ep,.slice dM hv.length dq]⟩ 33 (0,0))]) (fun(zz:Nat)=>zz≤hv.length) (fun(zz:Nat)=>hv.length-zz) 0 (by omega) [0] ?_
 rintro j hJ K2 lL rest
 refine zD 5<|zJ 35 ((j:Int) <(hv.length:Int)) (fun h4=>?_) fun h4=>?_
 ·
  refine jd 13 [0]<|jp (vs:=[.agg ⟨[.slice eE cs.length ep,.slice dM hv.length dq]⟩,zI (j:Int)]) [] [] (fun aE hs hZ=>(axw (hR.up hs) nA hT (by omega)))<|zD 10<|ja ((j:Int)+1) (by omega)<|zD 2<|bO lL (j+1) (by omega) (by omega) [0] (Sub.refl _)
 refine zD 7<|aJ q0 (zI 0) [] [] [] (Sub.refl _) ⟨_,_,rfl,rfl,rfl,rfl⟩
theorem apE{hv:List bA}{ro:Nat→Option Obj}(hR:iX ro vc vh cs hv hd)(nA:du dj hv hd)(hT:lg cs hd):dL zT 86 [.agg ⟨[vc,vh]⟩] ro (zI 0):=by
 obtain⟨hc,hh,dr⟩:=id hR
 obtain⟨eE,zk,zi,ep,rfl,Cq,xW,xV⟩:=hc
 obtain⟨dM,uy,ux,dq,rfl,wA,qv,qu⟩:=hh
 have CE:=hT.nc
 have hnh:=hT.nh
 have hlen:=nA.len
 refine bI av [] [] bB<|zD 2<|jn fun b1=>jd 5 [0]<|jp (vs:=[.agg ⟨[.slice eE cs.length ep,.slice dM hv.length dq]⟩]) [] [] (fun aE hs hZ=>(UJ (hR.up hs) nA hT))<|zD 3<|aJ q0 (zI 0) [] [] [] (Sub.refl _) ⟨_,_,rfl,rfl,rfl,rfl⟩
def Io(a b:ByteArray):Int:=bif strLt a b then-1 else bif !(strLt a b||cQ a b) then 1 else 0
def Mv:List ByteArray→List ByteArray→Int
 | [],[]=>0
 | [],_::_=> -1
 |_::_,[]=>1
 |x::xs,y::ys=>if Io x y=0 then Mv xs ys else Io x y
theorem Wy{x y:ByteArray}(hx:xs[k]?=some x) (hy:ys[k]?=some y):Mv (xs.drop k) (ys.drop k)=if Io x y=0 then Mv (xs.drop (k+1)) (ys.drop (k+1)) else Io x y:=by rw[fT hx,fT hy];rfl
theorem agO{x:ByteArray}(hx:xs[k]?=some x) (hy:¬k <ys.length):Mv (xs.drop k) (ys.drop k)=1:=by rw[fT hx,eP hy];rfl
theorem Qc(hx:¬k <xs.length):Mv (xs.drop k) (ys.drop k)=if k <ys.length then-1 else 0:=by
 rw[eP hx]
 split
 ·rename_i h
  rw[List.drop_eq_getElem_cons h];rfl
 rename_i h
 rw[eP h];rfl
def sb(s p:ByteArray):Bool:=decide (s.size≥p.size)&&cQ (s.extract 0 p.size) p
structure an where
 h:Int
 n:Int
 l:Int
abbrev cI(x:an):List Value:=[zI x.h,zI x.n,zI x.l]
def oN(h n l:Int)(y:an):Bool:=h==y.h&&(n==y.n&&(l==y.l&&true)&&true)
theorem aFf{a:ByteArray}{ro:Nat→Option Obj}:dL zT 265 [.string a] ro (.bool false):=by
 refine bI av [] [] bB<|zD 12<|aJ q0 (.bool (!(cQ a a))) [] [] [] (Sub.refl _) ⟨_,_,rfl,rfl,by rw[A6.2 rfl];rfl,rfl⟩
theorem aS8{a b:ByteArray}{ro:Nat→Option Obj}:dL zT 241 [.string a,.string b] ro (zI (Io a b)):=by
 refine bI av [] [] bB<|zD 7<|jp (vs:=[.string a]) [] [] (fun aE hs hZ=>aFf)<|zD 5<|jp (vs:=[.string b]) [] [] (fun aE hs hZ=>aFf)<|zD 23<|js 16 (strLt a b) (fun h1=>?_) (fun h1=>?_)
 ·
  refine zD 6<|aJ q0 (zI (-1)) [] [] [] (Sub.refl _) ⟨_,_,rfl,rfl,by simp_all[Io],rfl⟩
 refine zD 9<|js 19 (!(strLt a b||cQ a b)) (fun h2=>?_) (fun h2=>?_)
 ·
  try simp only[zB] at h2
  refine zD 6<|aJ q0 (zI 1) [] [] [] (Sub.refl _) ⟨_,_,rfl,rfl,by simp_all[Io],rfl⟩
 try simp only[zB] at h2
 refine zD 7<|aJ q0 (zI 0) [] [] [] (Sub.refl _) ⟨_,_,rfl,rfl,by simp_all[Io],rfl⟩
theorem aLL{v w:Value}{ro:Nat→Option Obj}(hv:bL ro v 1 pf xs)(hw:bL ro w 1 pf ys)(hx:xs.length≤1000)(hy:ys.length≤1000):dL zT 220 [v,w] ro (zI (Mv xs ys)):=by
 obtain⟨N8,qvb,qvo,C9,rfl,qvk,RR,RQ⟩:=hv
 obtain⟨RP,qwb,qwo,Kq,rfl,qwk,qwh,qwl⟩:=hw
 refine bI av [] [] bB<|zD 12<|eG [1,0,1,0,0] [] (fun(zz:Nat)=>[(0,.slice N8 xs.length C9),(1,.slice RP ys.length Kq),(9,.slice N8 xs.length C9),(10,zI (xs.length:Int)),(11,zI (zz:Int))]) (fun(zz:Nat)=>[]) (fun(zz:Nat)=>(zz≤xs.length∧zz≤ys.length)∧Mv xs ys=Mv (xs.drop zz) (ys.drop zz)) (fun(zz:Nat)=>xs.length-zz) 0 ⟨by omega,rfl⟩ [] ?_
 rintro k hI K1 bU rest
 refine zD 5<|zJ 12 ((k:Int) <(xs.length:Int)) (fun h1=>?_) fun h1=>?_
 ·
  refine zD 7 ?_
  obtain⟨fK,eN⟩:=zG xs k
  refine iE C9 1 RR eN<|jl 0 (RQ _ _ eN)<|zD 11<|zJ 19 ((k:Int)≥(ys.length:Int)) (fun h2=>?_) fun h2=>?_
  ·
   refine zD 6<|aJ q0 (zI 1) [] [] [] (Sub.refl _) ⟨_,_,rfl,rfl,by rw[hI.2,agO eN (by omega)],rfl⟩
  refine zD 6 ?_
  obtain⟨rF,tG⟩:=zG ys k
  refine iE Kq 1 qwh tG<|jl 0 (qwl _ _ tG)<|zD 6<|jp (vs:=[.string fK,.string rF]) [] [] (fun aE hs hZ=>aS8)<|zD 7<|js 28 (!decide ((Io fK rF)=0)) (fun h3=>?_) (fun h3=>?_)
  ·
   replace h3:=of_decide_eq_false (by simpa using h3)
   refine zD 7<|aJ q0 (zI (Io fK rF)) [] [] [] (Sub.refl _) ⟨_,_,rfl,rfl,by rw[hI.2,Wy eN tG,if_neg (by omega)],rfl⟩
  replace h3:=of_decide_eq_true (by simpa using h3)
  refine zD 3<|ja ((k:Int)+1) (by omega)<|zD 2<|bO bU (k+1) ⟨by omega,by rw[hI.2,Wy eN tG,if_pos (by omega)]⟩ (by omega) [] (Sub.refl _)
 refine zD 11<|zJ 35 ((xs.length:Int) <(ys.length:Int)) (fun h4=>?_) fun h4=>?_
 ·
  refine zD 6<|aJ q0 (zI (-1)) [] [] [] (Sub.refl _) ⟨_,_,rfl,rfl,by rw[hI.2,Qc (by omega),if_pos (by omega)],rfl⟩
 refine zD 7<|aJ q0 (zI 0) [] [] [] (Sub.refl _) ⟨_,_,rfl,rfl,by rw[hI.2,Qc (by omega),if_neg (by omega)],rfl⟩
theorem YI{a b:ByteArray}{ro:Nat→Option Obj}(hn:a.size≤1000∧b.size≤1000):dL zT 290 [.string a,.string b] ro (.bool (sb a b)):=by
 refine bI av [] [] bB<|zD 12<|js 10 (decide ((a.size:Int)≥(b.size:Int))) (fun h1=>?_) (fun h1=>?_)
 ·
  have gh:=h1
  replace gh:=of_decide_eq_true gh
  refine zD 3<|jtH (b:=a) (hi:=(b.size:Int)) (by omega)<|zD 6<|aJ q0 (.bool (cQ (a.extract 0 (b.size:Int).toNat) b)) [] [] [] (Sub.refl _) ⟨_,_,rfl,rfl,by simp_all[sb]<;>(intro;omega),rfl⟩
 have gh:=h1
 replace gh:=of_decide_eq_false gh
 refine zD 10<|aJ q0 (.bool false) [] [] [] (Sub.refl _) ⟨_,_,rfl,rfl,by simp_all[sb]<;>(intro;omega),rfl⟩
theorem YJ{a b:ByteArray}{ro:Nat→Option Obj}(hn:a.size≤1000∧b.size≤1000):dL zT 282 [.string a,.string b] ro (.bool (sb a b)):=by
 refine bI av [] [] bB<|zD 8<|jp (vs:=[.string a,.string b]) [] [] (fun aE hs hZ=>(YI (by omega)))<|zD 3<|aJ q0 (.bool (sb a b)) [] [] [] (Sub.refl _) ⟨_,_,rfl,rfl,rfl,rfl⟩
theorem adp{v:Value}{ps:List an}{h l:Int}{ro:Nat→Option Obj}(hp:bL ro v 3 cI ps)(hn:ps.length≤1000):dL zT 93 [v,.agg ⟨[zI h,zI n,zI l]⟩] ro (zI (cZ (oN h n l) ps 0)):=by
 obtain⟨QA,qpb,qpo,IZ,rfl,qpk,XN,XL⟩:=hp
 refine bI av [] [] bB<|zD 2<|jn fun b3=>zD 10<|eG [1,0,1,0,0] [] (fun(zz:Nat)=>[(0,.slice QA ps.length IZ),(3,zP b3),(7,zI (ps.length:Int)),(8,zI (zz:Int))]) (fun(zz:Nat)=>[.b b3 (.cells ⟨[zI h,zI n,zI l]⟩ 144 (0,0))]) (fun(zz:Nat)=>zz≤ps.length∧cZ (oN h n l) ps 0=cZ (oN h n l) (ps.drop zz) zz) (fun(zz:Nat)=>ps.length-zz) 0 ⟨by omega,rfl⟩ [0] ?_
 rintro k hI K1 bU rest
 refine zD 5<|zJ 9 ((k:Int) <(ps.length:Int)) (fun h1=>?_) fun h1=>?_
 ·
  refine jd 14 [0] ?_
  obtain⟨fK,eN⟩:=zG ps k
  refine iE IZ 3 XN eN<|jl 0 (XL _ _ eN)<|jeq ay6 (auw h n l fK.h fK.n fK.l)<|zD 1<|js 16 (h==fK.h&&(n==fK.n&&(l==fK.l&&true)&&true)) (fun h2=>?_) (fun h2=>?_)
  ·
   refine zD 7<|aJ q0 (zI (k:Int)) [] [] [] (Sub.refl _) ⟨_,_,rfl,rfl,by rw[hI.2,jF eN,show oN h n l fK=true from (by assumption)];rfl,rfl⟩
  refine zD 3<|ja ((k:Int)+1) (by omega)<|zD 2<|bO bU (k+1) ⟨by omega,by rw[hI.2,jF eN,show oN h n l fK=false from (by assumption)];rfl⟩ (by omega) [0] (Sub.refl _)
 refine zD 7<|aJ q0 (zI (-1)) [] [] [] (Sub.refl _) ⟨_,_,rfl,rfl,by rw[hI.2,qe (by omega)],rfl⟩
theorem Jl{v:Value}{ps:List an}{h l:Int}{ro:Nat→Option Obj}(hp:bL ro v 3 cI ps)(hn:ps.length≤1000):dL zT 67 [v,.agg ⟨[zI h,zI n,zI l]⟩] ro (.bool (decide (cZ (oN h n l) ps 0≥0))):=by
 obtain⟨QA,qpb,qpo,IZ,rfl,qpk,XN,XL⟩:=hp
 refine bI av [] [] bB<|zD 2<|jn fun b3=>jd 6 [0]<|jp (vs:=[.slice QA ps.length IZ,.agg ⟨[zI h,zI n,zI l]⟩]) [] [] (fun aE hs hZ=>adp ((show bL _ _ _ _ _ from ⟨QA,qpb,qpo,IZ,rfl,qpk,XN,XL⟩).up hs) (by first|omega| (simp only[List.length_set,List.length_append,List.length_cons,List.length_nil];omega))) ?_
 refine zD 4<|aJ q0 (.bool (decide ((cZ (oN h n l) ps 0)≥0))) [] [] [] (Sub.refl _) ⟨_,_,rfl,rfl,rfl,rfl⟩
theorem acC{v:Value}{ws:List ByteArray}{ro:Nat→Option Obj}(hv:bL ro v 1 pf ws)(hn:ws.length≤1000)(hW:∀w∈ws,(1≤w.size∧w.size≤6)∧Script w):dL zT 196 [v] ro (zI 0):=by
 obtain⟨N8,qvb,qvo,C9,rfl,qvk,RR,RQ⟩:=hv
 refine bI av [] [] bB<|zD 12<|eG [1,0,1,0,0] [] (fun(zz:Nat)=>[(6,.slice N8 ws.length C9),(7,zI (ws.length:Int)),(8,zI (zz:Int))]) (fun(zz:Nat)=>[]) (fun(zz:Nat)=>zz≤ws.length) (fun(zz:Nat)=>ws.length-zz) 0 (by omega) [] ?_
 rintro k hI K1 bU rest
 refine zD 5<|zJ 9 ((k:Int) <(ws.length:Int)) (fun h1=>?_) fun h1=>?_
 ·
  refine zD 6 ?_
  obtain⟨x10,rq⟩:=zG ws k
  refine iE C9 1 RR rq<|jl 0 (RQ _ _ rq)<|zD 5<|jp (vs:=[.string x10]) [] [] (fun aE hs hZ=>(Sf (hW _ (List.mem_of_getElem? rq)).1 (hW _ (List.mem_of_getElem? rq)).2))<|zD 10<|ja ((k:Int)+1) (by omega)<|zD 2<|bO bU (k+1) (by omega) (by omega) [] (Sub.refl _)
 refine zD 7<|aJ q0 (zI 0) [] [] [] (Sub.refl _) ⟨_,_,rfl,rfl,rfl,rfl⟩
end Go.L
