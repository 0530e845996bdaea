/- Part 7 of the proof. -/
import Derived.Test.YtfamogolneloaaaGreatDoorG6
set_option maxRecDepth 100000
set_option linter.all false
namespace Go.L
open Go Go.Conc Go.Proofs
variable {hd:List cq} {rs:List cM} {f t x:ByteArray} {cs:List bM} {b k i many b1 b2 bw b3 bl bm bt br bg b4:Nat} {l:List Value} {xs ys:List ByteArray} {p:ByteArray×ByteArray} {fs:List fF} {vl vp vc vh c11 c0 c1 c5 c6 c7 vt:Value} {K:aM} {Stop:Cells→Prop} {r n af gone new lo hi:Int} {α:Type}
def hqw:ByteArray:=bs [72,81,87]
def kindOf(r:Int):Int:=if 97≤r∧r≤122 then 1 else if (65≤r∧r≤90)∧Pj hqw (UInt8.ofNat (IntKind.u8.wrap r).toNat) <0 then 2 else 0
theorem aFK:EF zT 308 Extern.BytealgIndexByte.indexByte:=⟨Tryz.f308,Tryz.func308,by kernel_rfl,by kernel_rfl,by kernel_rfl,by kernel_rfl⟩
theorem YK{a:ByteArray}{b:Int}{ro:Nat→Option Obj}:de zT 300 [.string a,.int .u8 b] ro (zI (Pj a (b).toNat.toUInt8)):=by
 refine bA au [] [] a8<|zD 8<|jib (a:=a) (b:=b) aFK<|zD 3<|aE q0 (zI (Pj a (b).toNat.toUInt8)) [] [] [] (Sub.refl _) ⟨_,_,rfl,rfl,rfl,rfl⟩
theorem YL{a:ByteArray}{b:Int}{ro:Nat→Option Obj}:de zT 283 [.string a,.int .u8 b] ro (zI (Pj a (b).toNat.toUInt8)):=by
 refine bA au [] [] a8<|zD 8<|jp (vs:=[.string a,.int .u8 b]) [] [] (fun aB hs hZ=>YK)<|zD 3<|aE q0 (zI (Pj a (b).toNat.toUInt8)) [] [] [] (Sub.refl _) ⟨_,_,rfl,rfl,rfl,rfl⟩
theorem arV{a:ByteArray}{ro:Nat→Option Obj}(hr:0≤r∧r <128):de zT 259 [.string a,.int .i32 r] ro (zI (Pj a (IntKind.u8.wrap r).toNat.toUInt8)):=by
 refine bA au [] [] a8<|zD 10<|jj 3 [(0,.string a),(1,.int .i32 r),(4,zI 0),(166,.bool ((decide (0≤r))&&(decide (r <128))))] (fun gT=>?_) (fun hj=>?_)
 rotate_left
 refine js 163 (decide (0≤r)) (fun h1=>?_) (fun h1=>?_)
 ·
  have gx:=h1
  replace gx:=of_decide_eq_true gx
  refine zD 3<|jw 166 (.bool ((decide (0≤r))&&(decide (r <128)))) (w:= .bool (decide (r <128))) (by rw[h1]<;>rfl) ?_
  exact hj _ (by kernel_rfl) (by kernel_rfl)
 ·
  have gx:=h1
  replace gx:=of_decide_eq_false gx
  refine zD 3<|jw 166 (.bool ((decide (0≤r))&&(decide (r <128)))) (w:= .bool false) (by rw[h1]<;>rfl) ?_
  exact hj _ (by kernel_rfl) (by kernel_rfl)
 refine zD 2<|js 160 ((decide (0≤r))&&(decide (r <128))) (fun h2=>?_) (fun h2=>?_)
 ·
  try simp only[zB] at h2
  refine zD 6<|jp (vs:=[.string a,.int .u8 (IntKind.u8.wrap r)]) [] [] (fun aB hs hZ=>YL)<|zD 3<|aE q0 (zI (Pj a ((IntKind.u8.wrap r)).toNat.toUInt8)) [] [] [] (Sub.refl _) ⟨_,_,rfl,rfl,rfl,rfl⟩
 try simp only[zB] at h2
 exfalso;omega
theorem alL{a:ByteArray}{ro:Nat→Option Obj}(hr:0≤r∧r <128):de zT 239 [.string a,.int .i32 r] ro (.bool (decide (Pj a (IntKind.u8.wrap r).toNat.toUInt8≥0))):=by
 refine bA au [] [] a8<|zD 8<|jp (vs:=[.string a,.int .i32 r]) [] [] (fun aB hs hZ=>arV (by omega))<|zD 4<|aE q0 (.bool (decide ((Pj a (IntKind.u8.wrap r).toNat.toUInt8)≥0))) [] [] [] (Sub.refl _) ⟨_,_,rfl,rfl,rfl,rfl⟩
theorem anK{ro:Nat→Option Obj}:de zT 218 [.int .i32 r] ro (zI (kindOf r)):=by
 refine bA au [] [] a8<|zD 11<|jj 3 [(0,.int .i32 r),(2,zI 0),(9,.bool ((decide (r≥97))&&(decide (r≤122))))] (fun gT=>?_) (fun hj=>?_)
 rotate_left
 refine js 6 (decide (r≥97)) (fun h1=>?_) (fun h1=>?_)
 ·
  have gx:=h1
  replace gx:=of_decide_eq_true gx
  refine zD 3<|jw 9 (.bool ((decide (r≥97))&&(decide (r≤122)))) (w:= .bool (decide (r≤122))) (by rw[h1]<;>rfl) ?_
  exact hj _ (by kernel_rfl) (by kernel_rfl)
 ·
  have gx:=h1
  replace gx:=of_decide_eq_false gx
  refine zD 3<|jw 9 (.bool ((decide (r≥97))&&(decide (r≤122)))) (w:= .bool false) (by rw[h1]<;>rfl) ?_
  exact hj _ (by kernel_rfl) (by kernel_rfl)
 refine zD 2<|js 3 ((decide (r≥97))&&(decide (r≤122))) (fun h2=>?_) (fun h2=>?_)
 ·
  try simp only[zB] at h2
  refine zD 6<|aE q0 (zI 1) [] [] [] (Sub.refl _) ⟨_,_,rfl,rfl,by simp only[kindOf,hqw];congr 1;(try simp at*);(repeat' split)<;>omega,rfl⟩
 try simp only[zB] at h2
 refine zD 6<|jj 3 [(0,.int .i32 r),(2,zI 0),(16,.bool ((decide (r≥65))&&(decide (r≤90))))] (fun gT=>?_) (fun hj=>?_)
 rotate_left
 refine js 13 (decide (r≥65)) (fun h3=>?_) (fun h3=>?_)
 ·
  have v9:=h3
  replace v9:=of_decide_eq_true v9
  refine zD 3<|jw 16 (.bool ((decide (r≥65))&&(decide (r≤90)))) (w:= .bool (decide (r≤90))) (by rw[h3]<;>rfl) ?_
  exact hj _ (by kernel_rfl) (by kernel_rfl)
 ·
  have v9:=h3
  replace v9:=of_decide_eq_false v9
  refine zD 3<|jw 16 (.bool ((decide (r≥65))&&(decide (r≤90)))) (w:= .bool false) (by rw[h3]<;>rfl) ?_
  exact hj _ (by kernel_rfl) (by kernel_rfl)
 refine zD 1<|jj 4 [(2,zI 0),(21,.bool (((decide (r≥65))&&(decide (r≤90)))&&(!(decide (Pj (bs [72,81,87]) (IntKind.u8.wrap r).toNat.toUInt8≥0)))))] (fun gT=>?_) (fun hj=>?_)
 rotate_left
 refine js 17 ((decide (r≥65))&&(decide (r≤90))) (fun h4=>?_) (fun h4=>?_)
 ·
  have xV:=h4
  try simp only[zB] at xV
  refine zD 1<|jp (vs:=[.string (bs [72,81,87]),.int .i32 r]) [] [] (fun aB hs hZ=>alL (by omega))<|zD 2<|jw 21 (.bool (((decide (r≥65))&&(decide (r≤90)))&&(!(decide (Pj (bs [72,81,87]) (IntKind.u8.wrap r).toNat.toUInt8≥0))))) (w:= .bool (!(decide (Pj (bs [72,81,87]) (IntKind.u8.wrap r).toNat.toUInt8≥0)))) (by rw[h4]<;>rfl) ?_
  exact hj _ (by kernel_rfl) (by kernel_rfl)
 ·
  have xV:=h4
  try simp only[zB] at xV
  refine zD 4<|jw 21 (.bool (((decide (r≥65))&&(decide (r≤90)))&&(!(decide (Pj (bs [72,81,87]) (IntKind.u8.wrap r).toNat.toUInt8≥0))))) (w:= .bool false) (by rw[h4]<;>rfl) ?_
  exact hj _ (by kernel_rfl) (by kernel_rfl)
 refine zD 2<|js 10 (((decide (r≥65))&&(decide (r≤90)))&&(!(decide (Pj (bs [72,81,87]) (IntKind.u8.wrap r).toNat.toUInt8≥0)))) (fun h5=>?_) (fun h5=>?_)
 ·
  try simp only[zB] at h5
  refine zD 6<|aE q0 (zI 2) [] [] [] (Sub.refl _) ⟨_,_,rfl,rfl,by simp only[kindOf,hqw];congr 1;(try simp at*);(repeat' split)<;>omega,rfl⟩
 try simp only[zB] at h5
 refine zD 7<|aE q0 (zI 0) [] [] [] (Sub.refl _) ⟨_,_,rfl,rfl,by simp only[kindOf,hqw];congr 1;(try simp at*);(repeat' split)<;>omega,rfl⟩
theorem adp:((List.range 256).all fun n=> !F8 (UInt8.ofNat n)||decide (kindOf (n:Int)=1))=true:=by kernel_rfl
theorem ado:((List.range 256).all fun n=> !FK (UInt8.ofNat n)||decide (kindOf (n:Int)=2))=true:=by kernel_rfl
def XB(w:ByteArray)(k:Int):Prop:=∀b∈w.data.toList,b.toNat <128∧kindOf (b.toNat:Int)=k
theorem Ob{w:ByteArray}(h:Script w):∃k:Int,(k=1∨k=2)∧XB w k:=by
 have hb:∀b:UInt8,UInt8.ofNat b.toNat=b:=fun b=>by simp
 rcases h with h|h
 ·refine⟨1,.inl rfl,fun b mw=>?_⟩
  have h1:=h b mw
  have h2:=List.all_eq_true.1 adp b.toNat (List.mem_range.2 b.toNat_lt)
  rw[hb,h1] at h2
  simp only[F8,Bool.and_eq_true,Nat.ble_eq] at h1
  exact⟨by omega,by simpa using h2⟩
 refine⟨2,.inr rfl,fun b mw=>?_⟩
 have h1:=h b mw
 have h2:=List.all_eq_true.1 ado b.toNat (List.mem_range.2 b.toNat_lt)
 rw[hb,h1] at h2
 simp only[FK,Bool.and_eq_true,Nat.ble_eq] at h1
 exact⟨by omega,by simpa using h2⟩
theorem akh{w:ByteArray}{k:Int}{ro:Nat→Option Obj}(hs:1≤w.size∧w.size≤6)(hk:k=1∨k=2)(hK:XB w k):de zT 185 [.string w] ro (zI 0):=by
 refine bA au [] [] a8<|zD 11<|zJ 9 ((w.size:Int)=0) (fun h1=>?_) fun h1=>?_
 ·
  exfalso;omega
 refine zD 9<|zJ 12 ((w.size:Int)>6) (fun h2=>?_) fun h2=>?_
 ·
  exfalso;omega
 refine zD 10<|jn fun r14=>zD 2<|dW [1,1,1,1,0,1,0,0] [] (fun(zz:Nat×Int)=>[(3,zI zz.2),(14,zP r14)]) (fun(zz:Nat×Int)=>[.b r14 (.stringIter w zz.1)]) (fun(zz:Nat×Int)=>zz.1≤w.data.toList.length∧(zz.2=0∨zz.2=k)) (fun(zz:Nat×Int)=>w.data.toList.length-zz.1) (⟨0,0⟩) ⟨by omega,.inl rfl⟩ [0] ?_
 rintro⟨p,sc⟩ hI K1 bK rest
 dsimp only at hI
 refine zD 2 ?_
 cases PC:w.data.toList[p]? with
 |some zm=>
  refine jnA r14 0 PC (hK _ (List.mem_of_getElem? PC)).1<|zD 7 ?_
  have Wy:=(hK _ (List.mem_of_getElem? PC)).2
  refine zD 7<|jp (vs:=[.int .i32 (zm.toNat:Int)]) [] [] (fun aB hs hZ=>anK)<|zD 8<|zJ 21 (sc=0) (fun h3=>?_) fun h3=>?_
  ·
   refine zD 10<|jj 4 [(3,zI (kindOf (zm.toNat:Int))),(14,zP r14),(29,.bool ((decide ((kindOf (zm.toNat:Int))=0))||(!decide ((kindOf (zm.toNat:Int))=(kindOf (zm.toNat:Int))))))] (fun gT=>?_) (fun hj=>?_)
   rotate_left
   refine js 25 (decide ((kindOf (zm.toNat:Int))=0)) (fun h4=>?_) (fun h4=>?_)
   ·
    have xV:=h4
    replace xV:=of_decide_eq_true xV
    refine zD 4<|jw 29 (.bool ((decide ((kindOf (zm.toNat:Int))=0))||(!decide ((kindOf (zm.toNat:Int))=(kindOf (zm.toNat:Int)))))) (w:= .bool true) (by rw[h4]<;>rfl) ?_
    exact hj _ (by kernel_rfl) (by kernel_rfl)
   ·
    have xV:=h4
    replace xV:=of_decide_eq_false xV
    refine zD 4<|jw 29 (.bool ((decide ((kindOf (zm.toNat:Int))=0))||(!decide ((kindOf (zm.toNat:Int))=(kindOf (zm.toNat:Int)))))) (w:= .bool (!decide ((kindOf (zm.toNat:Int))=(kindOf (zm.toNat:Int))))) (by rw[h4]<;>rfl) ?_
    exact hj _ (by kernel_rfl) (by kernel_rfl)
   refine zD 1<|js 29 ((decide ((kindOf (zm.toNat:Int))=0))||(!decide ((kindOf (zm.toNat:Int))=(kindOf (zm.toNat:Int))))) (fun h5=>?_) (fun h5=>?_)
   ·
    try simp only[zB] at h5
    exfalso;omega
   try simp only[zB] at h5
   refine zD 2<|bO bK (⟨p+1,(kindOf (zm.toNat:Int))⟩) ⟨by have:=(List.getElem?_eq_some_iff.1 PC).1;dsimp only;omega,by dsimp only;omega⟩ (by have:=(List.getElem?_eq_some_iff.1 PC).1;dsimp only;omega) [0] (Sub.refl _)
  refine zD 7<|jj 4 [(3,zI sc),(14,zP r14),(29,.bool ((decide ((kindOf (zm.toNat:Int))=0))||(!decide ((kindOf (zm.toNat:Int))=sc))))] (fun gT=>?_) (fun hj=>?_)
  rotate_left
  refine js 25 (decide ((kindOf (zm.toNat:Int))=0)) (fun h6=>?_) (fun h6=>?_)
  ·
   have h6g:=h6
   replace h6g:=of_decide_eq_true h6g
   refine zD 4<|jw 29 (.bool ((decide ((kindOf (zm.toNat:Int))=0))||(!decide ((kindOf (zm.toNat:Int))=sc)))) (w:= .bool true) (by rw[h6]<;>rfl) ?_
   exact hj _ (by kernel_rfl) (by kernel_rfl)
  ·
   have h6g:=h6
   replace h6g:=of_decide_eq_false h6g
   refine zD 4<|jw 29 (.bool ((decide ((kindOf (zm.toNat:Int))=0))||(!decide ((kindOf (zm.toNat:Int))=sc)))) (w:= .bool (!decide ((kindOf (zm.toNat:Int))=sc))) (by rw[h6]<;>rfl) ?_
   exact hj _ (by kernel_rfl) (by kernel_rfl)
  refine zD 1<|js 29 ((decide ((kindOf (zm.toNat:Int))=0))||(!decide ((kindOf (zm.toNat:Int))=sc))) (fun h7=>?_) (fun h7=>?_)
  ·
   try simp only[zB] at h7
   exfalso;omega
  try simp only[zB] at h7
  refine zD 2<|bO bK (⟨p+1,sc⟩) ⟨by have:=(List.getElem?_eq_some_iff.1 PC).1;dsimp only;omega,by dsimp only;omega⟩ (by have:=(List.getElem?_eq_some_iff.1 PC).1;dsimp only;omega) [0] (Sub.refl _)
 |none=>
  refine jnZ r14 0 PC<|zD 10<|aE q0 (zI 0) [] [] [] (Sub.refl _) ⟨_,_,rfl,rfl,rfl,rfl⟩
def mE:=(nn Tryz.typeInfo3 Tryz.underlying3 rfl rfl rfl rfl rfl rfl:TF zT 3 _ 1 8 _ false)
theorem agV(a b c d:Int)(dep:Nat):EqD zT (dep+2) 73 (.agg ⟨[zI a,zI b]⟩) (.agg ⟨[zI c,zI d]⟩) (a==c&&(b==d&&true)):=
 uf (nn Tryz.typeInfo73 Tryz.underlying73 rfl rfl rfl rfl rfl rfl) Tryz.stoodInHeld73 (.cons (by decide) (j9 mE rfl) (j9 mE rfl) (n8 mE _ _) (.cons (by decide) (j9 mE rfl) (j9 mE rfl) (n8 mE _ _) .nil))
theorem wy(a b c d:Int):EqV zT 73 (.agg ⟨[zI a,zI b]⟩) (.agg ⟨[zI c,zI d]⟩) (a==c&&(b==d&&true)):=MF (agV a b c d _)
theorem auS(a b c d e f:Int):EqV zT 164 (.agg ⟨[zI a,zI b,zI c]⟩) (.agg ⟨[zI d,zI e,zI f]⟩) (a==d&&(b==e&&(c==f&&true)&&true)):=
 MF (uf (nn Tryz.typeInfo164 Tryz.underlying164 rfl rfl rfl rfl rfl rfl) Tryz.stoodInHeld164 (.cons (by decide) (j9 mE rfl) (j9 mE rfl) (n8 mE _ _) (.cons (by decide) (FG (nn Tryz.typeInfo73 Tryz.underlying73 rfl rfl rfl rfl rfl rfl) rfl) (FG (nn Tryz.typeInfo73 Tryz.underlying73 rfl rfl rfl rfl rfl rfl) rfl) (agV _ _ _ _ _) .nil)))
theorem FQ:od zT 73:=Tryz.eqGuardType73
theorem azD:od zT 164:=Tryz.eqGuardType164
def BP(n l:Int)(y:ah):Bool:=n==y.n&&(l==y.l&&true)
theorem SJ{w:ByteArray}{ro:Nat→Option Obj}(hs:1≤w.size∧w.size≤6)(h:Script w):de zT 185 [.string w] ro (zI 0):=by
 obtain⟨k,h1,h2⟩:=Ob h
 exact akh hs h1 h2
theorem An{ro:Nat→Option Obj}:de zT 87 [zI 0] ro (.tuple ⟨[]⟩):=by
 refine bA au [] [] a8<|zD 7<|aE q0 (.tuple ⟨[]⟩) [] [] [] (Sub.refl _) ⟨_,_,rfl,rfl,rfl,rfl⟩
theorem Wa{x:aG}{ro:Nat→Option Obj}:de zT 86 [.agg ⟨[.string x.name,zI x.st,zI x.no,zI x.head,.bool x.bold]⟩] ro (.agg ⟨[zI x.st,zI x.no,zI 0]⟩):=by
 refine bA au [] [] a8<|zD 2<|jn fun b1=>jn fun b2=>jd 12 [1,1,0]<|aE q0 (.agg ⟨[zI x.st,zI x.no,zI 0]⟩) [0] [] [] (Sub.refl _) ⟨_,_,rfl,rfl,rfl,rfl⟩
theorem adK{v:Value}{ps:List ah}{l:Int}{ro:Nat→Option Obj}(hp:bE ro v 2 cO ps)(hn:ps.length≤1000):de zT 219 [v,.agg ⟨[zI n,zI l]⟩] ro (zI (bG (BP n l) ps 0)):=by
 obtain⟨Q9,qpb,qpo,Ji,rfl,qpk,Yi,Yh⟩:=hp
 refine bA au [] [] a8<|zD 2<|jn fun b3=>zD 10<|dW [1,0,1,0,0] [] (fun(zz:Nat)=>[(0,.slice Q9 ps.length Ji),(3,zP b3),(7,zI (ps.length:Int)),(8,zI (zz:Int))]) (fun(zz:Nat)=>[.b b3 (.cells ⟨[zI n,zI l]⟩ 73 (0,0))]) (fun(zz:Nat)=>zz≤ps.length∧bG (BP n l) ps 0=bG (BP n l) (ps.drop zz) zz) (fun(zz:Nat)=>ps.length-zz) 0 ⟨by omega,rfl⟩ [0] ?_
 rintro k hI K1 bK rest
 refine zD 5<|zJ 9 ((k:Int) <(ps.length:Int)) (fun h1=>?_) fun h1=>?_
 ·
  refine jd 14 [0] ?_
  obtain⟨dZ,dw⟩:=zG ps k
  refine iK Ji 2 Yi dw<|jl 0 (Yh _ _ dw)<|jeq FQ (wy n l dZ.n dZ.l)<|zD 1<|js 16 (n==dZ.n&&(l==dZ.l&&true)) (fun h2=>?_) (fun h2=>?_)
  ·
   refine zD 7<|aE q0 (zI (k:Int)) [] [] [] (Sub.refl _) ⟨_,_,rfl,rfl,by rw[hI.2,gH dw,show BP n l dZ=true from (by assumption)];rfl,rfl⟩
  refine zD 3<|ja ((k:Int)+1) (by omega)<|zD 2<|bO bK (k+1) ⟨by omega,by rw[hI.2,gH dw,show BP n l dZ=false from (by assumption)];rfl⟩ (by omega) [0] (Sub.refl _)
 refine zD 7<|aE q0 (zI (-1)) [] [] [] (Sub.refl _) ⟨_,_,rfl,rfl,by rw[hI.2,mU (by omega)],rfl⟩
theorem JL{v:Value}{ps:List ah}{l:Int}{ro:Nat→Option Obj}(hp:bE ro v 2 cO ps)(hn:ps.length≤1000):de zT 186 [v,.agg ⟨[zI n,zI l]⟩] ro (.bool (decide (bG (BP n l) ps 0≥0))):=by
 obtain⟨Q9,qpb,qpo,Ji,rfl,qpk,Yi,Yh⟩:=hp
 refine bA au [] [] a8<|zD 2<|jn fun b3=>jd 6 [0]<|jp (vs:=[.slice Q9 ps.length Ji,.agg ⟨[zI n,zI l]⟩]) [] [] (fun aB hs hZ=>adK ((show bE _ _ _ _ _ from ⟨Q9,qpb,qpo,Ji,rfl,qpk,Yi,Yh⟩).up hs) (by first|omega| (simp only[List.length_set,List.length_append,List.length_cons,List.length_nil];omega))) ?_
 refine zD 4<|aE q0 (.bool (decide ((bG (BP n l) ps 0)≥0))) [] [] [] (Sub.refl _) ⟨_,_,rfl,rfl,rfl,rfl⟩
theorem WE{i:Int}(h:nW hd i): -1≤i∧i <hd.length:=by
 rcases h with h| ⟨h0,x,h1,_⟩
 ·omega
 have:=(List.getElem?_eq_some_iff.1 h1).1
 omega
theorem PX{hv:List bu}{i:Int}{x:bu}(h:dj dC hv hd)(hi:nW hd i)(h0:i≥0)(hx:hv[i.toNat]?=some x):0≤x.cls:=by
 rcases hi with hi| ⟨_,y,h1,h2⟩
 ·omega
 obtain⟨z,h3,h4⟩:=h.get hx
 rw[h1] at h3;cases h3
 rw[h4.2.1];exact h2
theorem Jl{S:List (List ah)}{x:aG}{l:List ah}(h:amP S hd x)(hl:S[x.st.toNat]?=some l):bG (BP x.no 0) l 0≥0:=by
 obtain⟨l',h1,h2⟩:=h.2
 rw[h1] at hl;cases hl
 have key:∀(l:List ah) (k:Nat),(⟨x.no,0⟩:ah)∈l→bG (BP x.no 0) l k≥0:=by
  intro l
  induction l with
  |nil=>intro k h;cases h
  |cons y l ih=>
   intro k h
   simp only[bG]
   cases hx:BP x.no 0 y with
   |true=>simp
   |false=>
    simp only[cond_false]
    rcases List.mem_cons.1 h with rfl|h
    ·simp[BP] at hx
    exact ih _ h
 exact key _ 0 h2
theorem adD{x:aG}{ro:Nat→Option Obj}(hK:gk ro l K)(hO:mz K)(hx:amP K.str K.hd x):de zT 156 [.agg ⟨l⟩,.agg ⟨[.string x.name,zI x.st,zI x.no,zI x.head,.bool x.bold]⟩,.bool true] ro (zI 0):=by
 obtain⟨vS,vT,vc,vh,vr,vb,va,vf,fa,fc,hv,rfl,hS,hT,rh,oF,hr,hb,ha,hf⟩:=hK
 obtain⟨jk,hs,fT⟩:=id hS
 obtain⟨jO,ht,fK⟩:=id hT
 obtain⟨hc,hh,GI⟩:=id rh
 obtain⟨mZ,Vw,Vu,mh,rfl,Vv,Ol,Ok⟩:=hs
 obtain⟨fp,Bd,Bb,ep,rfl,Bc,tk,tj⟩:=ht
 obtain⟨eL,Bh,Bg,eH,rfl,DO,zb,za⟩:=hc
 obtain⟨dN,u4,u3,dD,rfl,xD,qV,qU⟩:=hh
 obtain⟨mj,Ld,Lc,mi,rfl,Om,Jh,Jg⟩:=hr
 obtain⟨mI,Rc,Ra,mA,rfl,Rb,Oq,Oo⟩:=hb
 obtain⟨mB,Ov,Ot,mr,rfl,Ou,Ni,Nh⟩:=ha
 obtain⟨jW,Bf,Be,iQ,rfl,DN,u6,u5⟩:=hf
 have Dh:=hO.rules
 have qO:=hO.before.1
 have PN:=hO.after.1
 have PM:=hO.facts.1
 have PK:=hO.ways.1
 have Iu:=fT.len
 have EO:=fK.len
 have Zf:=hO.rN.two
 have hl9:=hO.ee.nh
 have Q8:∀(i:Nat) (p:eG),([]:List eG)[i]?=some p→cy ⟨ro,[]⟩ 0 (0+i*6) 6 (oL p):=fun _ _ h=>pn h
 have hNm:=hx.1.1
 have hNs:=hNm.1
 have hHd:=hx.1.2.1
 have hHl:=WE hHd
 have hSt:=hx.1.2.2.1
 have hBd:=hx.1.2.2.2
 have hlen:=oF.len
 refine bA au [] [] a8<|zD 2<|jn fun b3=>jn fun b4=>jd 7 [0]<|jp (vs:=[.string x.name]) [] [] (fun aB hs hZ=>(SJ (by omega) hNm.2))<|jd 27 [1,0,1]<|ja ((hv.length:Int)-1) (by omega)<|jp (vs:=[zI x.head,zI (-1),zI ((hv.length:Int)-1)]) [] [] (fun aB hs hZ=>eB)<|zD 3<|js 19 (!(iu x.head (-1) ((hv.length:Int)-1))) (fun h1=>?_) (fun h1=>?_)
 ·
  try simp only[zB] at h1
  exfalso;simp only[iu,Bool.and_eq_false_iff,decide_eq_false_iff_not] at h1;omega
 try simp only[zB] at h1
 refine jd 7 [0]<|js 33 (decide (x.head≥0)) (fun h2=>?_) (fun h2=>?_)
 ·
  have my:=h2
  replace my:=of_decide_eq_true my
  refine jd 5 [1,0] ?_
  obtain⟨EA,xG⟩:=zG hv (x.head.toNat)
  refine Nk x.head dD 4 qV xG (by omega)<|zD 1<|jl 1 (qU _ _ xG)<|zD 4<|zJ 29 (EA.cls=(-1)) (fun h3=>?_) fun h3=>?_
  ·
   exfalso;have:=PX oF hHd (by omega) xG;omega
  refine jd 8 [0]<|ja ((jk.length:Int)-1) (by omega)<|jp (vs:=[zI x.st,zI 0,zI ((jk.length:Int)-1)]) [] [] (fun aB hs hZ=>eB)<|zD 3<|js 44 (!(iu x.st 0 ((jk.length:Int)-1))) (fun h4=>?_) (fun h4=>?_)
  ·
   try simp only[zB] at h4
   exfalso;simp only[iu,Bool.and_eq_false_iff,decide_eq_false_iff_not] at h4;omega
  try simp only[zB] at h4
  refine jd 7 [0] ?_
  obtain⟨x57,D6⟩:=zG jk (x.st.toNat)
  refine Nk x.st mh 1 Ol D6 (by omega) ?_
  obtain⟨l58,ae2,h58⟩:=fT.get D6
  obtain aQm:=hO.rN.len _ (List.mem_of_getElem? ae2)
  obtain⟨ab9,aqG,aqC,ab8,rfl,aqE,aqF,aqD⟩:=h58
  refine jl 0 (Ok _ _ D6)<|jd 1 [0]<|jp (vs:=[.agg ⟨[.string x.name,zI x.st,zI x.no,zI x.head,.bool x.bold]⟩]) [] [] (fun aB hs hZ=>(Wa (x:=(⟨x.name,x.st,x.no,x.head,x.bold⟩:aG))))<|zD 1<|jp (vs:=[.slice ab9 l58.length ab8,.agg ⟨[zI x.no,zI 0]⟩]) [] [] (fun aB hs hZ=>JL ((show bE _ _ _ _ _ from ⟨ab9,aqG,aqC,ab8,rfl,aqE,aqF,aqD⟩).up hs) (by first|omega| (simp only[List.length_set,List.length_append,List.length_cons,List.length_nil];omega))) ?_
  refine zD 4<|js 44 (!(decide (bG (BP x.no 0) l58 0≥0))) (fun h5=>?_) (fun h5=>?_)
  ·
   try simp only[zB] at h5
   exfalso;have:=Jl hx ae2;omega
  try simp only[zB] at h5
  refine jd 20 [0]<|js 74 x.bold (fun h6=>?_) (fun h6=>?_)
  ·
   exfalso;rw[hBd] at h6;cases h6
  refine zD 7<|aE q0 (zI 0) [] [] [] (Sub.refl _) ⟨_,_,rfl,rfl,rfl,rfl⟩
 have my:=h2
 replace my:=of_decide_eq_false my
 refine jd 20 [0]<|ja ((jk.length:Int)-1) (by omega)<|jp (vs:=[zI x.st,zI 0,zI ((jk.length:Int)-1)]) [] [] (fun aB hs hZ=>eB)<|zD 3<|js 44 (!(iu x.st 0 ((jk.length:Int)-1))) (fun h7=>?_) (fun h7=>?_)
 ·
  try simp only[zB] at h7
  exfalso;simp only[iu,Bool.and_eq_false_iff,decide_eq_false_iff_not] at h7;omega
 try simp only[zB] at h7
 refine jd 7 [0] ?_
 obtain⟨x57,D6⟩:=zG jk (x.st.toNat)
 refine Nk x.st mh 1 Ol D6 (by omega) ?_
 obtain⟨l58,ae2,h58⟩:=fT.get D6
 obtain aQm:=hO.rN.len _ (List.mem_of_getElem? ae2)
 obtain⟨ab9,aqG,aqC,ab8,rfl,aqE,aqF,aqD⟩:=h58
 refine jl 0 (Ok _ _ D6)<|jd 1 [0]<|jp (vs:=[.agg ⟨[.string x.name,zI x.st,zI x.no,zI x.head,.bool x.bold]⟩]) [] [] (fun aB hs hZ=>(Wa (x:=(⟨x.name,x.st,x.no,x.head,x.bold⟩:aG))))<|zD 1<|jp (vs:=[.slice ab9 l58.length ab8,.agg ⟨[zI x.no,zI 0]⟩]) [] [] (fun aB hs hZ=>JL ((show bE _ _ _ _ _ from ⟨ab9,aqG,aqC,ab8,rfl,aqE,aqF,aqD⟩).up hs) (by first|omega| (simp only[List.length_set,List.length_append,List.length_cons,List.length_nil];omega))) ?_
 refine zD 4<|js 44 (!(decide (bG (BP x.no 0) l58 0≥0))) (fun h8=>?_) (fun h8=>?_)
 ·
  try simp only[zB] at h8
  exfalso;have:=Jl hx ae2;omega
 try simp only[zB] at h8
 refine jd 20 [0]<|js 74 x.bold (fun h9=>?_) (fun h9=>?_)
 ·
  exfalso;rw[hBd] at h9;cases h9
 refine zD 7<|aE q0 (zI 0) [] [] [] (Sub.refl _) ⟨_,_,rfl,rfl,rfl,rfl⟩
theorem adE{x:aG}{ro:Nat→Option Obj}(hK:gk ro l K)(hO:mz K)(hx:aGJ K.hd x):de zT 156 [.agg ⟨l⟩,.agg ⟨[.string x.name,zI x.st,zI x.no,zI x.head,.bool x.bold]⟩,.bool false] ro (zI 0):=by
 obtain⟨vS,vT,vc,vh,vr,vb,va,vf,fa,fc,hv,rfl,hS,hT,rh,oF,hr,hb,ha,hf⟩:=hK
 obtain⟨jk,hs,fT⟩:=id hS
 obtain⟨jO,ht,fK⟩:=id hT
 obtain⟨hc,hh,GI⟩:=id rh
 obtain⟨mZ,Vw,Vu,mh,rfl,Vv,Ol,Ok⟩:=hs
 obtain⟨fp,Bd,Bb,ep,rfl,Bc,tk,tj⟩:=ht
 obtain⟨eL,Bh,Bg,eH,rfl,DO,zb,za⟩:=hc
 obtain⟨dN,u4,u3,dD,rfl,xD,qV,qU⟩:=hh
 obtain⟨mj,Ld,Lc,mi,rfl,Om,Jh,Jg⟩:=hr
 obtain⟨mI,Rc,Ra,mA,rfl,Rb,Oq,Oo⟩:=hb
 obtain⟨mB,Ov,Ot,mr,rfl,Ou,Ni,Nh⟩:=ha
 obtain⟨jW,Bf,Be,iQ,rfl,DN,u6,u5⟩:=hf
 have Dh:=hO.rules
 have qO:=hO.before.1
 have PN:=hO.after.1
 have PM:=hO.facts.1
 have PK:=hO.ways.1
 have Iu:=fT.len
 have EO:=fK.len
 have Zf:=hO.rN.two
 have hl9:=hO.ee.nh
 have Q8:∀(i:Nat) (p:eG),([]:List eG)[i]?=some p→cy ⟨ro,[]⟩ 0 (0+i*6) 6 (oL p):=fun _ _ h=>pn h
 have hNm:=hx.1.1
 have hNs:=hNm.1
 have hHd:=hx.1.2.1
 have hHl:=WE hHd
 have hSt:=hx.1.2.2.1
 have hBd:=hx.1.2.2.2
 have hlen:=oF.len
 have hNo:=hx.2
 refine bA au [] [] a8<|zD 2<|jn fun b3=>jn fun b4=>jd 7 [0]<|jp (vs:=[.string x.name]) [] [] (fun aB hs hZ=>(SJ (by omega) hNm.2))<|jd 27 [1,0,1]<|ja ((hv.length:Int)-1) (by omega)<|jp (vs:=[zI x.head,zI (-1),zI ((hv.length:Int)-1)]) [] [] (fun aB hs hZ=>eB)<|zD 3<|js 19 (!(iu x.head (-1) ((hv.length:Int)-1))) (fun h1=>?_) (fun h1=>?_)
 ·
  try simp only[zB] at h1
  exfalso;simp only[iu,Bool.and_eq_false_iff,decide_eq_false_iff_not] at h1;omega
 try simp only[zB] at h1
 refine jd 7 [0]<|js 33 (decide (x.head≥0)) (fun h2=>?_) (fun h2=>?_)
 ·
  have my:=h2
  replace my:=of_decide_eq_true my
  refine jd 5 [1,0] ?_
  obtain⟨EA,xG⟩:=zG hv (x.head.toNat)
  refine Nk x.head dD 4 qV xG (by omega)<|zD 1<|jl 1 (qU _ _ xG)<|zD 4<|zJ 29 (EA.cls=(-1)) (fun h3=>?_) fun h3=>?_
  ·
   exfalso;have:=PX oF hHd (by omega) xG;omega
  refine jd 8 [0]<|ja ((jk.length:Int)-1) (by omega)<|jp (vs:=[zI x.st,zI 0,zI ((jk.length:Int)-1)]) [] [] (fun aB hs hZ=>eB)<|zD 3<|js 44 (!(iu x.st 0 ((jk.length:Int)-1))) (fun h4=>?_) (fun h4=>?_)
  ·
   try simp only[zB] at h4
   exfalso;simp only[iu,Bool.and_eq_false_iff,decide_eq_false_iff_not] at h4;omega
  try simp only[zB] at h4
  refine jd 25 [0]<|jp (vs:=[zI x.no,zI 1,zI 40]) [] [] (fun aB hs hZ=>eB)<|zD 4<|js 65 (!(iu x.no 1 40)) (fun h5=>?_) (fun h5=>?_)
  ·
   try simp only[zB] at h5
   exfalso;simp only[iu,Bool.and_eq_false_iff,decide_eq_false_iff_not] at h5;omega
  try simp only[zB] at h5
  refine jd 7 [0]<|js 74 x.bold (fun h6=>?_) (fun h6=>?_)
  ·
   exfalso;rw[hBd] at h6;cases h6
  refine zD 7<|aE q0 (zI 0) [] [] [] (Sub.refl _) ⟨_,_,rfl,rfl,rfl,rfl⟩
 have my:=h2
 replace my:=of_decide_eq_false my
 refine jd 20 [0]<|ja ((jk.length:Int)-1) (by omega)<|jp (vs:=[zI x.st,zI 0,zI ((jk.length:Int)-1)]) [] [] (fun aB hs hZ=>eB)<|zD 3<|js 44 (!(iu x.st 0 ((jk.length:Int)-1))) (fun h7=>?_) (fun h7=>?_)
 ·
  try simp only[zB] at h7
  exfalso;simp only[iu,Bool.and_eq_false_iff,decide_eq_false_iff_not] at h7;omega
 try simp only[zB] at h7
 refine jd 25 [0]<|jp (vs:=[zI x.no,zI 1,zI 40]) [] [] (fun aB hs hZ=>eB)<|zD 4<|js 65 (!(iu x.no 1 40)) (fun h8=>?_) (fun h8=>?_)
 ·
  try simp only[zB] at h8
  exfalso;simp only[iu,Bool.and_eq_false_iff,decide_eq_false_iff_not] at h8;omega
 try simp only[zB] at h8
 refine jd 7 [0]<|js 74 x.bold (fun h9=>?_) (fun h9=>?_)
 ·
  exfalso;rw[hBd] at h9;cases h9
 refine zD 7<|aE q0 (zI 0) [] [] [] (Sub.refl _) ⟨_,_,rfl,rfl,rfl,rfl⟩
theorem gk.up{ro aI:Nat→Option Obj}(h:gk ro l K)(hs:Sub ro aI):gk aI l K:=by
 obtain⟨vS,vT,vc,vh,vr,vb,va,vf,fa,fc,hv,rfl,h1,h2,h3,h4,h5,h6,h7,h8⟩:=h
 exact⟨_,_,_,_,_,_,_,_,_,_,_,rfl,h1.up hs,h2.up hs,h3.up hs,h4,h5.up hs,h6.up hs,h7.up hs,h8.up hs⟩
theorem adF{ro:Nat→Option Obj}(hK:gk ro l K)(hO:mz K)(hp:bE ro vp 5 fe K.before):de zT 121 [.agg ⟨l⟩,vp,.bool true] ro (zI 0):=by
 have WN:=hK
 obtain⟨vS,vT,vc,vh,vr,vb,va,vf,fa,fc,hv,rfl,hS,hT,rh,oF,hr,hb,ha,hf⟩:=hK
 obtain⟨jk,hs,fT⟩:=id hS
 obtain⟨jO,ht,fK⟩:=id hT
 obtain⟨hc,hh,GI⟩:=id rh
 obtain⟨mZ,Vw,Vu,mh,rfl,Vv,Ol,Ok⟩:=hs
 obtain⟨fp,Bd,Bb,ep,rfl,Bc,tk,tj⟩:=ht
 obtain⟨eL,Bh,Bg,eH,rfl,DO,zb,za⟩:=hc
 obtain⟨dN,u4,u3,dD,rfl,xD,qV,qU⟩:=hh
 obtain⟨mj,Ld,Lc,mi,rfl,Om,Jh,Jg⟩:=hr
 obtain⟨mI,Rc,Ra,mA,rfl,Rb,Oq,Oo⟩:=hb
 obtain⟨mB,Ov,Ot,mr,rfl,Ou,Ni,Nh⟩:=ha
 obtain⟨jW,Bf,Be,iQ,rfl,DN,u6,u5⟩:=hf
 have Dh:=hO.rules
 have qO:=hO.before.1
 have PN:=hO.after.1
 have PM:=hO.facts.1
 have PK:=hO.ways.1
 have Iu:=fT.len
 have EO:=fK.len
 have Zf:=hO.rN.two
 have hl9:=hO.ee.nh
 have Q8:∀(i:Nat) (p:eG),([]:List eG)[i]?=some p→cy ⟨ro,[]⟩ 0 (0+i*6) 6 (oL p):=fun _ _ h=>pn h
 obtain⟨Q9,qpb,qpo,Ji,rfl,qpk,Yi,Yh⟩:=hp
 refine bA au [] [] a8<|zD 2<|jn fun b3=>zD 9<|zJ 12 ((K.before.length:Int)>4) (fun h1=>?_) fun h1=>?_
 ·
  exfalso;omega
 refine zD 10<|dW [1,1,0,1,0,0] [] (fun(zz:Nat)=>[(2,.bool true),(3,zP b3),(13,.slice Q9 K.before.length Ji),(14,zI (K.before.length:Int)),(15,zI (zz:Int))]) (fun(zz:Nat)=>[.b b3 (.cells ⟨[.slice mZ jk.length mh,.slice fp jO.length ep,.slice fa 0 fc,.slice eL K.cs.length eH,.slice dN hv.length dD,.slice mj K.rules.length mi,.slice mI K.before.length mA,.slice mB K.after.length mr,zI K.gone,zI K.new,zI K.af,.slice jW K.facts.length iQ]⟩ 40 (0,0))]) (fun(zz:Nat)=>zz≤K.before.length) (fun(zz:Nat)=>K.before.length-zz) 0 (by omega) [0] ?_
 rintro k hI K1 bK rest
 refine zD 5<|zJ 16 ((k:Int) <(K.before.length:Int)) (fun h2=>?_) fun h2=>?_
 ·
  refine zD 6 ?_
  obtain⟨US,Gj⟩:=zG K.before k
  refine iK Ji 5 Yi Gj<|jl 0 (Yh _ _ Gj)<|jn fun b8=>jd 7 [0,1,0]<|jp (vs:=[.agg ⟨[.slice mZ jk.length mh,.slice fp jO.length ep,.slice fa 0 fc,.slice eL K.cs.length eH,.slice dN hv.length dD,.slice mj K.rules.length mi,.slice mI K.before.length mA,.slice mB K.after.length mr,zI K.gone,zI K.new,zI K.af,.slice jW K.facts.length iQ]⟩,.agg ⟨[.string US.name,zI US.st,zI US.no,zI US.head,.bool US.bold]⟩,.bool true]) [] [] (fun aB hs hZ=>(adD (x:=US) (WN.up hs) hO (hO.before.2 _ (List.mem_of_getElem? Gj))))<|zD 10<|ja ((k:Int)+1) (by omega)<|zD 2<|bO bK (k+1) (by omega) (by omega) [1] (Sub.refl _)
 refine zD 7<|aE q0 (zI 0) [] [] [] (Sub.refl _) ⟨_,_,rfl,rfl,rfl,rfl⟩
theorem adG{ro:Nat→Option Obj}(hK:gk ro l K)(hO:mz K)(hp:bE ro vp 5 fe K.after):de zT 121 [.agg ⟨l⟩,vp,.bool false] ro (zI 0):=by
 have WN:=hK
 obtain⟨vS,vT,vc,vh,vr,vb,va,vf,fa,fc,hv,rfl,hS,hT,rh,oF,hr,hb,ha,hf⟩:=hK
 obtain⟨jk,hs,fT⟩:=id hS
 obtain⟨jO,ht,fK⟩:=id hT
 obtain⟨hc,hh,GI⟩:=id rh
 obtain⟨mZ,Vw,Vu,mh,rfl,Vv,Ol,Ok⟩:=hs
 obtain⟨fp,Bd,Bb,ep,rfl,Bc,tk,tj⟩:=ht
 obtain⟨eL,Bh,Bg,eH,rfl,DO,zb,za⟩:=hc
 obtain⟨dN,u4,u3,dD,rfl,xD,qV,qU⟩:=hh
 obtain⟨mj,Ld,Lc,mi,rfl,Om,Jh,Jg⟩:=hr
 obtain⟨mI,Rc,Ra,mA,rfl,Rb,Oq,Oo⟩:=hb
 obtain⟨mB,Ov,Ot,mr,rfl,Ou,Ni,Nh⟩:=ha
 obtain⟨jW,Bf,Be,iQ,rfl,DN,u6,u5⟩:=hf
 have Dh:=hO.rules
 have qO:=hO.before.1
 have PN:=hO.after.1
 have PM:=hO.facts.1
 have PK:=hO.ways.1
 have Iu:=fT.len
 have EO:=fK.len
 have Zf:=hO.rN.two
 have hl9:=hO.ee.nh
 have Q8:∀(i:Nat) (p:eG),([]:List eG)[i]?=some p→cy ⟨ro,[]⟩ 0 (0+i*6) 6 (oL p):=fun _ _ h=>pn h
 obtain⟨Q9,qpb,qpo,Ji,rfl,qpk,Yi,Yh⟩:=hp
 refine bA au [] [] a8<|zD 2<|jn fun b3=>zD 9<|zJ 12 ((K.after.length:Int)>4) (fun h1=>?_) fun h1=>?_
 ·
  exfalso;omega
 refine zD 10<|dW [1,1,0,1,0,0] [] (fun(zz:Nat)=>[(2,.bool false),(3,zP b3),(13,.slice Q9 K.after.length Ji),(14,zI (K.after.length:Int)),(15,zI (zz:Int))]) (fun(zz:Nat)=>[.b b3 (.cells ⟨[.slice mZ jk.length mh,.slice fp jO.length ep,.slice fa 0 fc,.slice eL K.cs.length eH,.slice dN hv.length dD,.slice mj K.rules.length mi,.slice mI K.before.length mA,.slice mB K.after.length mr,zI K.gone,zI K.new,zI K.af,.slice jW K.facts.length iQ]⟩ 40 (0,0))]) (fun(zz:Nat)=>zz≤K.after.length) (fun(zz:Nat)=>K.after.length-zz) 0 (by omega) [0] ?_
 rintro k hI K1 bK rest
 refine zD 5<|zJ 16 ((k:Int) <(K.after.length:Int)) (fun h2=>?_) fun h2=>?_
 ·
  refine zD 6 ?_
  obtain⟨US,Gj⟩:=zG K.after k
  refine iK Ji 5 Yi Gj<|jl 0 (Yh _ _ Gj)<|jn fun b8=>jd 7 [0,1,0]<|jp (vs:=[.agg ⟨[.slice mZ jk.length mh,.slice fp jO.length ep,.slice fa 0 fc,.slice eL K.cs.length eH,.slice dN hv.length dD,.slice mj K.rules.length mi,.slice mI K.before.length mA,.slice mB K.after.length mr,zI K.gone,zI K.new,zI K.af,.slice jW K.facts.length iQ]⟩,.agg ⟨[.string US.name,zI US.st,zI US.no,zI US.head,.bool US.bold]⟩,.bool false]) [] [] (fun aB hs hZ=>(adE (x:=US) (WN.up hs) hO (hO.after.2 _ (List.mem_of_getElem? Gj))))<|zD 10<|ja ((k:Int)+1) (by omega)<|zD 2<|bO bK (k+1) (by omega) (by omega) [1] (Sub.refl _)
 refine zD 7<|aE q0 (zI 0) [] [] [] (Sub.refl _) ⟨_,_,rfl,rfl,rfl,rfl⟩
theorem aru{x y:fF}{ro:Nat→Option Obj}(hb:ro b=some (.cells ⟨[zI y.a,zI y.b,.bool y.same]⟩ 54 (0,0))):de zT 93 [.agg ⟨[zI x.a,zI x.b,.bool x.same]⟩,zP b] ro (.bool (decide (x.a=y.a)&&decide (x.b=y.b))):=by
 refine bA au [] [] a8<|zD 2<|jn fun b2=>jd 7 [0]<|jl (b:=b) (off:=0) (m:=3) (vs:=[zI y.a,zI y.b,.bool y.same]) 0 ⟨_,_,_,.inl hb,rfl⟩<|zD 2<|jj 6 [(3,.bool false),(15,.bool ((decide (x.a=y.a))&&(decide (x.b=y.b))))] (fun gT=>?_) (fun hj=>?_)
 rotate_left
 refine js 9 (decide (x.a=y.a)) (fun h1=>?_) (fun h1=>?_)
 ·
  have gx:=h1
  replace gx:=of_decide_eq_true gx
  refine jd 3 [0]<|jl (b:=b) (off:=0) (m:=3) (vs:=[zI y.a,zI y.b,.bool y.same]) 1 ⟨_,_,_,.inl hb,rfl⟩<|zD 2<|jw 15 (.bool ((decide (x.a=y.a))&&(decide (x.b=y.b)))) (w:= .bool (decide (x.b=y.b))) (by rw[h1]<;>rfl) ?_
  exact hj _ (by kernel_rfl) (by kernel_rfl)
 ·
  have gx:=h1
  replace gx:=of_decide_eq_false gx
  refine zD 6<|jw 15 (.bool ((decide (x.a=y.a))&&(decide (x.b=y.b)))) (w:= .bool false) (by rw[h1]<;>rfl) ?_
  exact hj _ (by kernel_rfl) (by kernel_rfl)
 refine zD 3<|aE q0 (.bool ((decide (x.a=y.a))&&(decide (x.b=y.b)))) [] [] [] (Sub.refl _) ⟨_,_,rfl,rfl,rfl,rfl⟩
def DF(x y:fF):Bool:=decide (y.a=x.a)&&decide (y.b=x.b)
theorem Cr{p:α→Bool}:∀ {l:List α} {k:Nat},(∀y∈l,p y=false)→bG p l k= -1
 | [],_,_=>rfl
 |x::l,k,h=>by simp only[bG,h x (List.mem_cons_self ..),cond_false];exact Cr fun y hy=>h y (List.mem_cons_of_mem _ hy)
theorem agG{x:fF}(h:fs.Pairwise fun x y=>¬(x.a=y.a∧x.b=y.b))(hx:fs[i]?=some x):bG (DF x) (fs.take i) 0 <0:=by
 rw[Cr]
 ·omega
 intro y hy
 obtain⟨j,hj⟩:=List.getElem?_of_mem hy
 rw[List.getElem?_take] at hj
 split at hj
 ·rename_i zf
  have:=p8 h zf hj hx
  simp only[DF,Bool.and_eq_false_iff,decide_eq_false_iff_not]
  by_cases h1:y.a=x.a
  ·exact .inr fun h2=>this ⟨h1,h2⟩
  exact .inl h1
 cases hj
theorem arN{v:Value}{x:fF}{ro:Nat→Option Obj}(hf:bE ro v 3 wA fs)(hn:fs.length≤1000)(hb:ro b=some (.cells ⟨[zI x.a,zI x.b,.bool x.same]⟩ 54 (0,0))):de zT 125 [v,.func (.func 93) ⟨[]⟩ ⟨[zP b]⟩] ro (zI (bG (DF x) fs 0)):=by
 obtain⟨jW,Bf,Be,iQ,rfl,DN,u6,u5⟩:=hf
 refine bA au [] [] a8<|zD 12<|dW [1,0,1,0,0] [] (fun(zz:Nat)=>[(0,.slice jW fs.length iQ),(1,.func (.func 93) ⟨[]⟩ ⟨[zP b]⟩),(7,zI (fs.length:Int)),(8,zI (zz:Int))]) (fun(zz:Nat)=>[]) (fun(zz:Nat)=>zz≤fs.length∧bG (DF x) fs 0=bG (DF x) (fs.drop zz) zz) (fun(zz:Nat)=>fs.length-zz) 0 ⟨by omega,rfl⟩ [] ?_
 rintro k hI K1 bK rest
 refine zD 5<|zJ 9 ((k:Int) <(fs.length:Int)) (fun h1=>?_) fun h1=>?_
 ·
  refine zD 14 ?_
  obtain⟨dZ,dw⟩:=zG fs k
  refine iK iQ 3 u6 dw<|jl 0 (u5 _ _ dw)<|jp (vs:=[.agg ⟨[zI dZ.a,zI dZ.b,.bool dZ.same]⟩,zP b]) [] [] (fun aB hs hZ=>(aru (hs _ _ hb)))<|zD 1<|js 16 (DF x dZ) (fun h2=>?_) (fun h2=>?_)
  ·
   refine zD 7<|aE q0 (zI (k:Int)) [] [] [] (Sub.refl _) ⟨_,_,rfl,rfl,by rw[hI.2,gH dw,show DF x dZ=true from (by assumption)];rfl,rfl⟩
  refine zD 3<|ja ((k:Int)+1) (by omega)<|zD 2<|bO bK (k+1) ⟨by omega,by rw[hI.2,gH dw,show DF x dZ=false from (by assumption)];rfl⟩ (by omega) [] (Sub.refl _)
 refine zD 7<|aE q0 (zI (-1)) [] [] [] (Sub.refl _) ⟨_,_,rfl,rfl,by rw[hI.2,mU (by omega)],rfl⟩
theorem akT{v:Value}{x:fF}{ro:Nat→Option Obj}(hf:bE ro v 3 wA fs)(hn:fs.length≤1000)(hb:ro b=some (.cells ⟨[zI x.a,zI x.b,.bool x.same]⟩ 54 (0,0))):de zT 92 [v,.func (.func 93) ⟨[]⟩ ⟨[zP b]⟩] ro (.bool (decide (bG (DF x) fs 0≥0))):=by
 obtain⟨jW,Bf,Be,iQ,rfl,DN,u6,u5⟩:=hf
 refine bA au [] [] a8<|zD 8<|jp (vs:=[.slice jW fs.length iQ,.func (.func 93) ⟨[]⟩ ⟨[zP b]⟩]) [] [] (fun aB hs hZ=>arN ((show bE _ _ _ _ _ from ⟨jW,Bf,Be,iQ,rfl,DN,u6,u5⟩).up hs) (by first|omega| (simp only[List.length_set,List.length_append,List.length_cons,List.length_nil];omega)) (hs _ _ hb)) ?_
 refine zD 4<|aE q0 (.bool (decide ((bG (DF x) fs 0)≥0))) [] [] [] (Sub.refl _) ⟨_,_,rfl,rfl,rfl,rfl⟩
theorem az6{x:fF}{ro:Nat→Option Obj}(hK:gk ro l K)(hO:mz K)(hp:bE ro vp 3 wA fs)(hn:fs.length≤1000)(hx:(0≤x.a∧x.a <K.before.length)∧(0≤x.b∧x.b <K.after.length))(hw:bG (DF x) fs 0 <0):de zT 55 [.agg ⟨l⟩,vp,.agg ⟨[zI x.a,zI x.b,.bool x.same]⟩] ro (zI 0):=by
 obtain⟨vS,vT,vc,vh,vr,vb,va,vf,fa,fc,hv,rfl,hS,hT,rh,oF,hr,hb,ha,hf⟩:=hK
 obtain⟨jk,hs,fT⟩:=id hS
 obtain⟨jO,ht,fK⟩:=id hT
 obtain⟨hc,hh,GI⟩:=id rh
 obtain⟨mZ,Vw,Vu,mh,rfl,Vv,Ol,Ok⟩:=hs
 obtain⟨fp,Bd,Bb,ep,rfl,Bc,tk,tj⟩:=ht
 obtain⟨eL,Bh,Bg,eH,rfl,DO,zb,za⟩:=hc
 obtain⟨dN,u4,u3,dD,rfl,xD,qV,qU⟩:=hh
 obtain⟨mj,Ld,Lc,mi,rfl,Om,Jh,Jg⟩:=hr
 obtain⟨mI,Rc,Ra,mA,rfl,Rb,Oq,Oo⟩:=hb
 obtain⟨mB,Ov,Ot,mr,rfl,Ou,Ni,Nh⟩:=ha
 obtain⟨jW,Bf,Be,iQ,rfl,DN,u6,u5⟩:=hf
 have Dh:=hO.rules
 have qO:=hO.before.1
 have PN:=hO.after.1
 have PM:=hO.facts.1
 have PK:=hO.ways.1
 have Iu:=fT.len
 have EO:=fK.len
 have Zf:=hO.rN.two
 have hl9:=hO.ee.nh
 have Q8:∀(i:Nat) (p:eG),([]:List eG)[i]?=some p→cy ⟨ro,[]⟩ 0 (0+i*6) 6 (oL p):=fun _ _ h=>pn h
 obtain⟨Q9,qpb,qpo,Ji,rfl,qpk,Yi,Yh⟩:=hp
 refine bA au [] [] a8<|zD 2<|jn fun b3=>jn fun b5=>jd 12 [0,1]<|ja ((K.before.length:Int)-1) (by omega)<|jp (vs:=[zI x.a,zI 0,zI ((K.before.length:Int)-1)]) [] [] (fun aB hs hZ=>eB)<|zD 3<|js 7 (!(iu x.a 0 ((K.before.length:Int)-1))) (fun h1=>?_) (fun h1=>?_)
 ·
  try simp only[zB] at h1
  exfalso;simp only[iu,Bool.and_eq_false_iff,decide_eq_false_iff_not] at h1;omega
 try simp only[zB] at h1
 refine jd 7 [0,1]<|ja ((K.after.length:Int)-1) (by omega)<|jp (vs:=[zI x.b,zI 0,zI ((K.after.length:Int)-1)]) [] [] (fun aB hs hZ=>eB)<|zD 3<|js 7 (!(iu x.b 0 ((K.after.length:Int)-1))) (fun h2=>?_) (fun h2=>?_)
 ·
  try simp only[zB] at h2
  exfalso;simp only[iu,Bool.and_eq_false_iff,decide_eq_false_iff_not] at h2;omega
 try simp only[zB] at h2
 refine zD 5<|jp (vs:=[.slice Q9 fs.length Ji,.func (.func 93) ⟨[]⟩ ⟨[zP b5]⟩]) [0] [(b5,.cells ⟨[zI x.a,zI x.b,.bool x.same]⟩ 54 (0,0))] (fun aB hs hZ=>akT ((show bE _ _ _ _ _ from ⟨Q9,qpb,qpo,Ji,rfl,qpk,Yi,Yh⟩).up hs) (by first|omega| (simp only[List.length_set,List.length_append,List.length_cons,List.length_nil];omega)) hZ.head) ?_
 refine zD 2<|js 24 (decide (bG (DF x) fs 0≥0)) (fun h3=>?_) (fun h3=>?_)
 ·
  exfalso;have:=of_decide_eq_true h3;omega
 refine zD 7<|aE q0 (zI 0) [] [] [] (Sub.refl _) ⟨_,_,rfl,rfl,rfl,rfl⟩
theorem axR{w:ByteArray}{ro:Nat→Option Obj}(hs:1≤w.size∧w.size≤12)(hc:cN w (bs [99,108,97,115,115])=false)(hf:cN w (bs [102,105,110,105,115])=false)(hK:∀b∈w.data.toList,97≤b.toNat∧b.toNat≤122):de zT 208 [.string w] ro (.bool true):=by
 refine bA au [] [] a8<|zD 11<|jj 4 [(0,.string w),(2,.bool false),(12,.bool ((decide ((w.size:Int)=0))||(decide ((w.size:Int)>12))))] (fun gT=>?_) (fun hj=>?_)
 rotate_left
 refine js 8 (decide ((w.size:Int)=0)) (fun h1=>?_) (fun h1=>?_)
 ·
  have gx:=h1
  replace gx:=of_decide_eq_true gx
  refine zD 4<|jw 12 (.bool ((decide ((w.size:Int)=0))||(decide ((w.size:Int)>12)))) (w:= .bool true) (by rw[h1]<;>rfl) ?_
  exact hj _ (by kernel_rfl) (by kernel_rfl)
 ·
  have gx:=h1
  replace gx:=of_decide_eq_false gx
  refine zD 4<|jw 12 (.bool ((decide ((w.size:Int)=0))||(decide ((w.size:Int)>12)))) (w:= .bool (decide ((w.size:Int)>12))) (by rw[h1]<;>rfl) ?_
  exact hj _ (by kernel_rfl) (by kernel_rfl)
 refine zD 1<|jj 3 [(0,.string w),(2,.bool false),(16,.bool (((decide ((w.size:Int)=0))||(decide ((w.size:Int)>12)))||(cN w (bs [99,108,97,115,115]))))] (fun gT=>?_) (fun hj=>?_)
 rotate_left
 refine js 13 ((decide ((w.size:Int)=0))||(decide ((w.size:Int)>12))) (fun h2=>?_) (fun h2=>?_)
 ·
  have my:=h2
  try simp only[zB] at my
  refine zD 3<|jw 16 (.bool (((decide ((w.size:Int)=0))||(decide ((w.size:Int)>12)))||(cN w (bs [99,108,97,115,115])))) (w:= .bool true) (by rw[h2]<;>rfl) ?_
  exact hj _ (by kernel_rfl) (by kernel_rfl)
 ·
  have my:=h2
  try simp only[zB] at my
  refine zD 3<|jw 16 (.bool (((decide ((w.size:Int)=0))||(decide ((w.size:Int)>12)))||(cN w (bs [99,108,97,115,115])))) (w:= .bool (cN w (bs [99,108,97,115,115]))) (by rw[h2]<;>rfl) ?_
  exact hj _ (by kernel_rfl) (by kernel_rfl)
 refine zD 1<|jj 3 [(0,.string w),(2,.bool false),(20,.bool ((((decide ((w.size:Int)=0))||(decide ((w.size:Int)>12)))||(cN w (bs [99,108,97,115,115])))||(cN w (bs [102,105,110,105,115]))))] (fun gT=>?_) (fun hj=>?_)
 rotate_left
 refine js 17 (((decide ((w.size:Int)=0))||(decide ((w.size:Int)>12)))||(cN w (bs [99,108,97,115,115]))) (fun h3=>?_) (fun h3=>?_)
 ·
  have v9:=h3
  try simp only[zB] at v9
  refine zD 3<|jw 20 (.bool ((((decide ((w.size:Int)=0))||(decide ((w.size:Int)>12)))||(cN w (bs [99,108,97,115,115])))||(cN w (bs [102,105,110,105,115])))) (w:= .bool true) (by rw[h3]<;>rfl) ?_
  exact hj _ (by kernel_rfl) (by kernel_rfl)
 ·
  have v9:=h3
  try simp only[zB] at v9
  refine zD 3<|jw 20 (.bool ((((decide ((w.size:Int)=0))||(decide ((w.size:Int)>12)))||(cN w (bs [99,108,97,115,115])))||(cN w (bs [102,105,110,105,115])))) (w:= .bool (cN w (bs [102,105,110,105,115]))) (by rw[h3]<;>rfl) ?_
  exact hj _ (by kernel_rfl) (by kernel_rfl)
 refine zD 1<|js 20 ((((decide ((w.size:Int)=0))||(decide ((w.size:Int)>12)))||(cN w (bs [99,108,97,115,115])))||(cN w (bs [102,105,110,105,115]))) (fun h4=>?_) (fun h4=>?_)
 ·
  try simp only[zB] at h4
  exfalso;simp only[hc,hf,Bool.or_false,Bool.or_eq_true,decide_eq_true_eq,Bool.false_eq_true,or_false] at h4;omega
 try simp only[zB] at h4
 refine zD 6<|jn fun r22=>zD 2<|dW [1,1,0,1,0,0] [] (fun(zz:Nat)=>[(22,zP r22)]) (fun(zz:Nat)=>[.b r22 (.stringIter w zz)]) (fun(zz:Nat)=>zz≤w.data.toList.length) (fun(zz:Nat)=>w.data.toList.length-zz) 0 (by omega) [0] ?_
 rintro p hI K1 bK rest
 refine zD 2 ?_
 cases Zd:w.data.toList[p]? with
 |some u1=>
  refine jnA r22 0 Zd (by have:=hK _ (List.mem_of_getElem? Zd);omega) ?_
  refine zD 7 ?_
  have Wy:=hK _ (List.mem_of_getElem? Zd)
  refine zD 9<|jj 3 [(22,zP r22),(31,.bool ((decide ((u1.toNat:Int) <97))||(decide ((u1.toNat:Int)>122))))] (fun gT=>?_) (fun hj=>?_)
  rotate_left
  refine js 28 (decide ((u1.toNat:Int) <97)) (fun h5=>?_) (fun h5=>?_)
  ·
   have Eg:=h5
   replace Eg:=of_decide_eq_true Eg
   refine zD 3<|jw 31 (.bool ((decide ((u1.toNat:Int) <97))||(decide ((u1.toNat:Int)>122)))) (w:= .bool true) (by rw[h5]<;>rfl) ?_
   exact hj _ (by kernel_rfl) (by kernel_rfl)
  ·
   have Eg:=h5
   replace Eg:=of_decide_eq_false Eg
   refine zD 3<|jw 31 (.bool ((decide ((u1.toNat:Int) <97))||(decide ((u1.toNat:Int)>122)))) (w:= .bool (decide ((u1.toNat:Int)>122))) (by rw[h5]<;>rfl) ?_
   exact hj _ (by kernel_rfl) (by kernel_rfl)
  refine zD 1<|js 31 ((decide ((u1.toNat:Int) <97))||(decide ((u1.toNat:Int)>122))) (fun h6=>?_) (fun h6=>?_)
  ·
   try simp only[zB] at h6
   exfalso;omega
  try simp only[zB] at h6
  refine zD 2<|bO bK (p+1) (by have:=(List.getElem?_eq_some_iff.1 Zd).1;omega) (by have:=(List.getElem?_eq_some_iff.1 Zd).1;omega) [0] (Sub.refl _)
 |none=>
  refine jnZ r22 0 Zd<|zD 10<|aE q0 (.bool true) [] [] [] (Sub.refl _) ⟨_,_,rfl,rfl,rfl,rfl⟩
def En(x y:bM):Bool:=cN y.name x.name
theorem ap5{x y:bM}{ro:Nat→Option Obj}(hb:ro b=some (.cells ⟨[.string x.name,zI x.under]⟩ 140 (0,0))):de zT 210 [.agg ⟨[.string y.name,zI y.under]⟩,zP b] ro (.bool (cN y.name x.name)):=by
 refine bA au [] [] a8<|zD 2<|jn fun b2=>jd 7 [0]<|jl (b:=b) (off:=0) (m:=2) (vs:=[.string x.name,zI x.under]) 0 ⟨_,_,_,.inl hb,rfl⟩<|zD 4<|aE q0 (.bool (cN y.name x.name)) [] [] [] (Sub.refl _) ⟨_,_,rfl,rfl,rfl,rfl⟩
theorem ap4{v:Value}{fs:List bM}{x:bM}{ro:Nat→Option Obj}(hf:bE ro v 2 oZ fs)(hn:fs.length≤1000)(hb:ro b=some (.cells ⟨[.string x.name,zI x.under]⟩ 140 (0,0))):de zT 232 [v,.func (.func 210) ⟨[]⟩ ⟨[zP b]⟩] ro (zI (bG (En x) fs 0)):=by
 obtain⟨jW,Bf,Be,iQ,rfl,DN,u6,u5⟩:=hf
 refine bA au [] [] a8<|zD 12<|dW [1,0,1,0,0] [] (fun(zz:Nat)=>[(0,.slice jW fs.length iQ),(1,.func (.func 210) ⟨[]⟩ ⟨[zP b]⟩),(7,zI (fs.length:Int)),(8,zI (zz:Int))]) (fun(zz:Nat)=>[]) (fun(zz:Nat)=>zz≤fs.length∧bG (En x) fs 0=bG (En x) (fs.drop zz) zz) (fun(zz:Nat)=>fs.length-zz) 0 ⟨by omega,rfl⟩ [] ?_
 rintro k hI K1 bK rest
 refine zD 5<|zJ 9 ((k:Int) <(fs.length:Int)) (fun h1=>?_) fun h1=>?_
 ·
  refine zD 14 ?_
  obtain⟨dZ,dw⟩:=zG fs k
  refine iK iQ 2 u6 dw<|jl 0 (u5 _ _ dw)<|jp (vs:=[.agg ⟨[.string dZ.name,zI dZ.under]⟩,zP b]) [] [] (fun aB hs hZ=>(ap5 (y:=dZ) (hs _ _ hb)))<|zD 1<|js 16 (En x dZ) (fun h2=>?_) (fun h2=>?_)
  ·
   refine zD 7<|aE q0 (zI (k:Int)) [] [] [] (Sub.refl _) ⟨_,_,rfl,rfl,by rw[hI.2,gH dw,show En x dZ=true from (by assumption)];rfl,rfl⟩
  refine zD 3<|ja ((k:Int)+1) (by omega)<|zD 2<|bO bK (k+1) ⟨by omega,by rw[hI.2,gH dw,show En x dZ=false from (by assumption)];rfl⟩ (by omega) [] (Sub.refl _)
 refine zD 7<|aE q0 (zI (-1)) [] [] [] (Sub.refl _) ⟨_,_,rfl,rfl,by rw[hI.2,mU (by omega)],rfl⟩
theorem ajs{v:Value}{fs:List bM}{x:bM}{ro:Nat→Option Obj}(hf:bE ro v 2 oZ fs)(hn:fs.length≤1000)(hb:ro b=some (.cells ⟨[.string x.name,zI x.under]⟩ 140 (0,0))):de zT 209 [v,.func (.func 210) ⟨[]⟩ ⟨[zP b]⟩] ro (.bool (decide (bG (En x) fs 0≥0))):=by
 obtain⟨jW,Bf,Be,iQ,rfl,DN,u6,u5⟩:=hf
 refine bA au [] [] a8<|zD 8<|jp (vs:=[.slice jW fs.length iQ,.func (.func 210) ⟨[]⟩ ⟨[zP b]⟩]) [] [] (fun aB hs hZ=>ap4 ((show bE _ _ _ _ _ from ⟨jW,Bf,Be,iQ,rfl,DN,u6,u5⟩).up hs) (by first|omega| (simp only[List.length_set,List.length_append,List.length_cons,List.length_nil];omega)) (hs _ _ hb)) ?_
 refine zD 4<|aE q0 (.bool (decide ((bG (En x) fs 0)≥0))) [] [] [] (Sub.refl _) ⟨_,_,rfl,rfl,rfl,rfl⟩
def hdP(x y:bu):Bool:=cN y.word x.word
theorem axZ{x y:bu}{ro:Nat→Option Obj}(hb:ro b=some (.cells ⟨[.string x.word,zI x.cls,zI x.ou,x.dX]⟩ 143 (0,0))):de zT 213 [.agg ⟨[.string y.word,zI y.cls,zI y.ou,y.dX]⟩,zP b] ro (.bool (cN y.word x.word)):=by
 refine bA au [] [] a8<|zD 2<|jn fun b2=>jd 7 [0]<|jl (b:=b) (off:=0) (m:=4) (vs:=[.string x.word,zI x.cls,zI x.ou,x.dX]) 0 ⟨_,_,_,.inl hb,rfl⟩<|zD 4<|aE q0 (.bool (cN y.word x.word)) [] [] [] (Sub.refl _) ⟨_,_,rfl,rfl,rfl,rfl⟩
theorem axY{v:Value}{fs:List bu}{x:bu}{ro:Nat→Option Obj}(hf:bE ro v 4 ma fs)(hn:fs.length≤1000)(hb:ro b=some (.cells ⟨[.string x.word,zI x.cls,zI x.ou,x.dX]⟩ 143 (0,0))):de zT 233 [v,.func (.func 213) ⟨[]⟩ ⟨[zP b]⟩] ro (zI (bG (hdP x) fs 0)):=by
 obtain⟨jW,Bf,Be,iQ,rfl,DN,u6,u5⟩:=hf
 refine bA au [] [] a8<|zD 12<|dW [1,0,1,0,0] [] (fun(zz:Nat)=>[(0,.slice jW fs.length iQ),(1,.func (.func 213) ⟨[]⟩ ⟨[zP b]⟩),(7,zI (fs.length:Int)),(8,zI (zz:Int))]) (fun(zz:Nat)=>[]) (fun(zz:Nat)=>zz≤fs.length∧bG (hdP x) fs 0=bG (hdP x) (fs.drop zz) zz) (fun(zz:Nat)=>fs.length-zz) 0 ⟨by omega,rfl⟩ [] ?_
 rintro k hI K1 bK rest
 refine zD 5<|zJ 9 ((k:Int) <(fs.length:Int)) (fun h1=>?_) fun h1=>?_
 ·
  refine zD 14 ?_
  obtain⟨dZ,dw⟩:=zG fs k
  refine iK iQ 4 u6 dw<|jl 0 (u5 _ _ dw)<|jp (vs:=[.agg ⟨[.string dZ.word,zI dZ.cls,zI dZ.ou,dZ.dX]⟩,zP b]) [] [] (fun aB hs hZ=>(axZ (y:=dZ) (hs _ _ hb)))<|zD 1<|js 16 (hdP x dZ) (fun h2=>?_) (fun h2=>?_)
  ·
   refine zD 7<|aE q0 (zI (k:Int)) [] [] [] (Sub.refl _) ⟨_,_,rfl,rfl,by rw[hI.2,gH dw,show hdP x dZ=true from (by assumption)];rfl,rfl⟩
  refine zD 3<|ja ((k:Int)+1) (by omega)<|zD 2<|bO bK (k+1) ⟨by omega,by rw[hI.2,gH dw,show hdP x dZ=false from (by assumption)];rfl⟩ (by omega) [] (Sub.refl _)
 refine zD 7<|aE q0 (zI (-1)) [] [] [] (Sub.refl _) ⟨_,_,rfl,rfl,by rw[hI.2,mU (by omega)],rfl⟩
theorem ap1{v:Value}{fs:List bu}{x:bu}{ro:Nat→Option Obj}(hf:bE ro v 4 ma fs)(hn:fs.length≤1000)(hb:ro b=some (.cells ⟨[.string x.word,zI x.cls,zI x.ou,x.dX]⟩ 143 (0,0))):de zT 212 [v,.func (.func 213) ⟨[]⟩ ⟨[zP b]⟩] ro (.bool (decide (bG (hdP x) fs 0≥0))):=by
 obtain⟨jW,Bf,Be,iQ,rfl,DN,u6,u5⟩:=hf
 refine bA au [] [] a8<|zD 8<|jp (vs:=[.slice jW fs.length iQ,.func (.func 213) ⟨[]⟩ ⟨[zP b]⟩]) [] [] (fun aB hs hZ=>axY ((show bE _ _ _ _ _ from ⟨jW,Bf,Be,iQ,rfl,DN,u6,u5⟩).up hs) (by first|omega| (simp only[List.length_set,List.length_append,List.length_cons,List.length_nil];omega)) (hs _ _ hb)) ?_
 refine zD 4<|aE q0 (.bool (decide ((bG (hdP x) fs 0)≥0))) [] [] [] (Sub.refl _) ⟨_,_,rfl,rfl,rfl,rfl⟩
def zo(w:ByteArray):Bool:=Nat.ble 1 w.size&&(Nat.ble w.size 12&&(!cN w (bs [99,108,97,115,115])&&(!cN w (bs [102,105,110,105,115])&&w.data.toList.all fun b=>Nat.ble 97 b.toNat&&Nat.ble b.toNat 122)))
theorem XQ:∀w∈nD,zo w=true:=List.all_eq_true.1 (by kernel_rfl)
theorem ZR:∀w∈py,zo w=true:=List.all_eq_true.1 (by kernel_rfl)
theorem abq{w:ByteArray}{ro:Nat→Option Obj}(h:zo w=true):de zT 208 [.string w] ro (.bool true):=by
 simp only[zo,Bool.and_eq_true,Nat.ble_eq,Bool.not_eq_true',List.all_eq_true] at h
 exact axR ⟨h.1,h.2.1⟩ h.2.2.1 h.2.2.2.1 h.2.2.2.2
structure lA(cs:List bM)(hd:List cq):Prop where
 nc:0 <cs.length∧cs.length≤6
 nh:hd.length≤6
 cls:∀(i:Nat) (c:bM),cs[i]?=some c→zo c.name=true∧ -1≤c.under∧c.under <i
 names:(cs.map (·.name)).Pairwise fun a b=>cN a b=false
 Ay:∀(i:Nat) (x:cq),hd[i]?=some x→zo x.word=true∧gR cs.length hd.length i x
 words:(hd.map (·.word)).Pairwise fun a b=>cN a b=false∧strLt b a=false
theorem wN.v(h:wN cs hd):lA cs hd:=
 ⟨⟨h.nc.1,by have:=h.nc.2;omega⟩,by have:=h.nh;omega,fun i c hc=>⟨XQ _ (h.cls i c hc).1,(h.cls i c hc).2⟩,h.names,fun i x hx=>⟨ZR _ (h.Ay i x hx).1,(h.Ay i x hx).2⟩,h.words⟩
theorem Qt{p:α→α→Bool}{l:List α}{x:α}(h:l.Pairwise fun y x=>p x y=false)(hx:l[i]?=some x):bG (p x) (l.take i) 0 <0:=by
 rw[Cr]
 ·omega
 intro y hy
 obtain⟨j,hj⟩:=List.getElem?_of_mem hy
 rw[List.getElem?_take] at hj
 split at hj
 ·rename_i zf
  exact p8 h zf hj hx
 cases hj
theorem amu{x:bM}(h:lA cs hd)(hx:cs[i]?=some x):bG (En x) (cs.take i) 0 <0:=
 Qt (p:=En) (List.pairwise_map.1 h.names) hx
theorem NB{hv:List bu}(h:dj dC hv hd):hv.map (·.word)=hd.map (·.word):=by
 induction h with
 |nil=>rfl
 |cons h1 _ ih=>simp only[List.map_cons,h1.1,ih]
theorem atJ{hv:List bu}{x:bu}(h:lA cs hd)(hs:dj dC hv hd)(hx:hv[i]?=some x):bG (hdP x) (hv.take i) 0 <0:=
 Qt (p:=hdP) ((List.pairwise_map.1 (NB hs▸h.words)).imp fun h=>h.1) hx
theorem aB9{hv:List bu}{j:Nat}{x y:bu}(h:lA cs hd)(hs:dj dC hv hd)(HM:j <i)(hx:hv[i]?=some x) (hy:hv[j]?=some y):strLt x.word y.word=false:=
 (p8 (List.pairwise_map.1 (NB hs▸h.words)) HM hy hx).2
theorem abI{ro:Nat→Option Obj}{nc nh:Nat}{x:bu}{y:cq}(h:gR nc nh i y)(hr:rD ro x y):
 (-1≤x.cls∧x.cls <nc)∧(-1≤x.ou∧x.ou <nh∧x.ou≠i)∧(y.dX.length≤nh∧y.dX.Pairwise (· < ·)∧∀z∈y.dX,0≤z∧z <nh∧z≠i)∧(x.ou≠ -1→x.cls= -1∧y.dX.length=0)∧(x.ou= -1→x.cls= -1→y.dX.length≠0):=by
 rw[hr.2.1,hr.2.2.1]
 exact⟨h.1,h.2.1,h.2.2.1,fun a=>⟨(h.2.2.2.1 a).1,by rw[(h.2.2.2.1 a).2];rfl⟩,fun a b c=>h.2.2.2.2 a b (List.eq_nil_of_length_eq_zero c)⟩
theorem ap7{v:Value}{ro:Nat→Option Obj}(hc:bE ro v 2 oZ cs)(hT:lA cs hd)(hi:i <cs.length):de zT 182 [v,zI (i:Int)] ro (zI 0):=by
 obtain⟨eL,Bh,Bg,eH,rfl,DO,zb,za⟩:=hc
 have Df:=hT.nc
 refine bA au [] [] a8<|zD 8 ?_
 obtain⟨x8,hx8⟩:=zG cs i
 refine iK eH 2 zb hx8<|jl 0 (za _ _ hx8)<|jn fun b5=>jd 5 [0] ?_
 have iM:=hT.cls _ _ hx8
 have hcn:bG (En x8) (cs.take (i:Int).toNat) 0 <0:=amu hT hx8
 have htk:(cs.take (i:Int).toNat).length≤cs.length:=by rw[List.length_take];omega
 refine jd 3 [0]<|jp (vs:=[.string x8.name]) [] [] (fun aB hs hZ=>(abq iM.1))<|zD 8<|jcH (hi:=(i:Int)) (show bE _ _ _ _ _ from ⟨eL,Bh,Bg,eH,rfl,DO,zb,za⟩) (by omega) (fun v18 asq=>?_)
 obtain⟨anD,ayI,ayE,anC,rfl,ayG,ayH,ayF⟩:=asq
 refine zD 1<|jp (vs:=[.slice anD ((((cs).take (i:Int).toNat)).length) anC,.func (.func 210) ⟨[]⟩ ⟨[zP b5]⟩]) [0] [(b5,.cells ⟨[.string x8.name,zI x8.under]⟩ 140 (0,0))] (fun aB hs hZ=>ajs (x:=x8) ((show bE _ _ _ _ _ from ⟨anD,ayI,ayE,anC,rfl,ayG,ayH,ayF⟩).up hs) (by first|omega| (simp only[List.length_set,List.length_append,List.length_cons,List.length_nil];omega)) hZ.head) ?_
 refine zD 2<|js 15 (decide (bG (En x8) ((cs).take (i:Int).toNat) 0≥0)) (fun h1=>?_) (fun h1=>?_)
 ·
  exfalso;have:=of_decide_eq_true h1;omega
 refine jd 7 [0]<|ja ((cs.length:Int)-1) (by omega)<|jp (vs:=[zI x8.under,zI (-1),zI ((cs.length:Int)-1)]) [] [] (fun aB hs hZ=>jb)<|zD 3<|js 21 (!(iu x8.under (-1) ((cs.length:Int)-1))) (fun h2=>?_) (fun h2=>?_)
 ·
  try simp only[zB] at h2
  exfalso;simp only[iu,Bool.and_eq_false_iff,decide_eq_false_iff_not] at h2;omega
 try simp only[zB] at h2
 refine jd 9 [0]<|zJ 29 (x8.under≥(i:Int)) (fun h3=>?_) fun h3=>?_
 ·
  exfalso;omega
 refine zD 7<|aE q0 (zI 0) [] [] [] (Sub.refl _) ⟨_,_,rfl,rfl,rfl,rfl⟩
theorem axX{hv:List bu}{ro:Nat→Option Obj}(hR:jM ro vc vh cs hv hd)(oF:dj dC hv hd)(hT:lA cs hd)(hi:i <hv.length):de zT 183 [.agg ⟨[vc,vh]⟩,zI (i:Int)] ro (zI 0):=by
 obtain⟨hc,hh,cY⟩:=id hR
 obtain⟨eL,Bh,Bg,eH,rfl,DO,zb,za⟩:=hc
 obtain⟨dN,u4,u3,dD,rfl,xD,qV,qU⟩:=hh
 have Df:=hT.nc
 have hnh:=hT.nh
 have hlen:=oF.len
 refine bA au [] [] a8<|zD 2<|jn fun b2=>jd 9 [0,0] ?_
 obtain⟨dZ,dw⟩:=zG hv i
 refine iK dD 4 qV dw<|jl 0 (qU _ _ dw)<|aO 7 fun Dz DJ Bn=>jn fun b6=>bI Bn [1]<|zD 1<|aO 9 fun Dy DI Ck=>jsx 0 b6 0 [.string ByteArray.empty,zI 0,zI 0,zS] [.string dZ.word,zI dZ.cls,zI dZ.ou,dZ.dX] 143 (mP cY _ (List.mem_of_getElem? dw)) rfl<|e8 Ck<|zD 4 ?_
 obtain⟨Ey,aAo,asw⟩:=cY.get dw
 obtain⟨fI,rM,rK,eX,hqe,tG,lG,mH⟩:=asw.2.2.2
 have aPf:=(hT.Ay _ _ aAo).1
 have hsh:=abI (hT.Ay _ _ aAo).2 asw
 obtain⟨bW,n6,HH,ky,hs5⟩:=hsh
 have hwb:zo dZ.word=true:=by rw[asw.1];exact aPf
 have hcn:bG (hdP dZ) (hv.take (i:Int).toNat) 0 <0:=atJ hT oF dw
 have htk:(hv.take (i:Int).toNat).length≤hv.length:=by rw[List.length_take];omega
 refine jmw 0 [.b b6 (.cells ⟨[.string dZ.word,zI dZ.cls,zI dZ.ou,.slice fI Ey.dX.length eX]⟩ 143 (0,0))] (L:=[(b6,.cells ⟨[.string dZ.word,zI dZ.cls,zI dZ.ou,dZ.dX]⟩ 143 (0,0))]) (by rw[hqe];rfl) ?_
 refine jd 3 [0]<|jp (vs:=[.string dZ.word]) [] [] (fun aB hs hZ=>(abq hwb))<|zD 8<|jcH (hi:=(i:Int)) (show bE _ _ _ _ _ from ⟨dN,u4,u3,dD,rfl,xD,qV,qU⟩) (by omega) (fun v24 aPy=>?_)
 obtain⟨anB,ayD,ayz,anA,rfl,ayB,ayC,ayA⟩:=aPy
 refine zD 1<|jp (vs:=[.slice anB ((((hv).take (i:Int).toNat)).length) anA,.func (.func 213) ⟨[]⟩ ⟨[zP b6]⟩]) [0] [(b6,.cells ⟨[.string dZ.word,zI dZ.cls,zI dZ.ou,.slice fI Ey.dX.length eX]⟩ 143 (0,0))] (fun aB hs hZ=>ap1 (x:=dZ) ((show bE _ _ _ _ _ from ⟨anB,ayD,ayz,anA,rfl,ayB,ayC,ayA⟩).up hs) (by first|omega| (simp only[List.length_set,List.length_append,List.length_cons,List.length_nil];omega)) (by rw[hqe];exact hZ.head)) ?_
 refine zD 2<|js 21 (decide (bG (hdP dZ) ((hv).take (i:Int).toNat) 0≥0)) (fun h3=>?_) (fun h3=>?_)
 ·
  exfalso;have:=of_decide_eq_true h3;omega
 refine zD 6<|js 2 (decide ((i:Int)>0)) (fun h4=>?_) (fun h4=>?_)
 ·
  have xV:=h4
  replace xV:=of_decide_eq_true xV
  refine jd 4 [0]<|ja ((i:Int)-1) (by omega) ?_
  obtain⟨x36,yJ⟩:=zG hv (((i:Int)-1).toNat)
  refine Nk ((i:Int)-1) dD 4 qV yJ (by omega)<|zD 1<|jl 0 (qU _ _ yJ)<|zD 4<|js 27 (strLt dZ.word x36.word) (fun h5=>?_) (fun h5=>?_)
  ·
   exfalso;rw[aB9 hT oF (by omega) dw yJ] at h5;cases h5
  refine jd 9 [0,1]<|ja ((cs.length:Int)-1) (by omega)<|jp (vs:=[zI dZ.cls,zI (-1),zI ((cs.length:Int)-1)]) [] [] (fun aB hs hZ=>jb)<|zD 3<|js 41 (!(iu dZ.cls (-1) ((cs.length:Int)-1))) (fun h6=>?_) (fun h6=>?_)
  ·
   try simp only[zB] at h6
   exfalso;simp only[iu,Bool.and_eq_false_iff,decide_eq_false_iff_not] at h6;omega
  try simp only[zB] at h6
  refine jd 6 [0]<|ja ((hv.length:Int)-1) (by omega)<|jp (vs:=[zI dZ.ou,zI (-1),zI ((hv.length:Int)-1)]) [] [] (fun aB hs hZ=>jb)<|zD 3<|js 41 (!(iu dZ.ou (-1) ((hv.length:Int)-1))) (fun h7=>?_) (fun h7=>?_)
  ·
   try simp only[zB] at h7
   exfalso;simp only[iu,Bool.and_eq_false_iff,decide_eq_false_iff_not] at h7;omega
  try simp only[zB] at h7
  refine jd 9 [0]<|zJ 57 (dZ.ou=(i:Int)) (fun h8=>?_) fun h8=>?_
  ·
   exfalso;omega
  refine jd 11 [0]<|dW [1,1,1,0,1,0,0] [] (fun(zz:Nat)=>[(1,zI (i:Int)),(5,.slice dN hv.length dD),(6,zP b6),(63,.slice fI Ey.dX.length eX),(64,zI (Ey.dX.length:Int)),(65,zI (zz:Int))]) (fun(zz:Nat)=>[.b b6 (.cells ⟨[.string dZ.word,zI dZ.cls,zI dZ.ou,.slice fI Ey.dX.length eX]⟩ 143 (0,0))]) (fun(zz:Nat)=>zz≤Ey.dX.length) (fun(zz:Nat)=>Ey.dX.length-zz) 0 (by omega) [0] ?_
  rintro k hI K3 hK3 rest
  refine zD 5<|zJ 66 ((k:Int) <(Ey.dX.length:Int)) (fun h9=>?_) fun h9=>?_
  ·
   refine zD 7 ?_
   obtain⟨x68,Mb⟩:=zG Ey.dX k
   refine iK eX 1 lG Mb<|jl 0 (mH _ _ Mb)<|zD 5 ?_
   have aSf:=HH.2.2 _ (List.mem_of_getElem? Mb)
   refine zD 4<|ja ((hv.length:Int)-1) (by omega)<|jp (vs:=[zI x68,zI 0,zI ((hv.length:Int)-1)]) [] [] (fun aB hs hZ=>jb)<|zD 3<|js 70 (!(iu x68 0 ((hv.length:Int)-1))) (fun HS=>?_) (fun HS=>?_)
   ·
    try simp only[zB] at HS
    exfalso;simp only[iu,Bool.and_eq_false_iff,decide_eq_false_iff_not] at HS;omega
   try simp only[zB] at HS
   refine zD 8<|zJ 77 (x68=(i:Int)) (fun Mu=>?_) fun Mu=>?_
   ·
    exfalso;omega
   refine zD 6<|js 84 (decide ((k:Int)>0)) (fun Bp=>?_) (fun Bp=>?_)
   ·
    have agj:=Bp
    replace agj:=of_decide_eq_true agj
    refine jd 4 [0]<|ja ((k:Int)-1) (by omega) ?_
    obtain⟨x90,S3⟩:=zG Ey.dX (((k:Int)-1).toNat)
    refine Nk ((k:Int)-1) eX 1 lG S3 (by omega)<|jl 0 (mH _ _ S3)<|zD 4<|zJ 81 (x68≤x90) (fun xe=>?_) fun xe=>?_
    ·
     exfalso;have:=p8 HH.2.1 (show ((k:Int)-1).toNat <k by omega) S3 Mb;omega
    refine zD 3<|ja ((k:Int)+1) (by omega)<|zD 2<|bO hK3 (k+1) (by omega) (by omega) [0] (Sub.refl _)
   have agj:=Bp
   replace agj:=of_decide_eq_false agj
   refine zD 14<|ja ((k:Int)+1) (by omega)<|zD 2<|bO hK3 (k+1) (by omega) (by omega) [0] (Sub.refl _)
  refine jd 9 [0]<|js 98 (!decide (dZ.ou=(-1))) (fun Qb=>?_) (fun Qb=>?_)
  ·
   have IB:=Qb
   replace IB:=of_decide_eq_false (by simpa using IB)
   refine jd 4 [0]<|js 102 (!decide (dZ.cls=(-1))) (fun GK=>?_) (fun GK=>?_)
   ·
    have xM:=GK
    replace xM:=of_decide_eq_false (by simpa using xM)
    refine zD 29 ?_
    exfalso;omega
   have xM:=GK
   replace xM:=of_decide_eq_true (by simpa using xM)
   refine jd 7 [0]<|js 109 (decide ((Ey.dX.length:Int)>0)) (fun IA=>?_) (fun IA=>?_)
   ·
    have agh:=IA
    replace agh:=of_decide_eq_true agh
    refine zD 22 ?_
    exfalso;omega
   have agh:=IA
   replace agh:=of_decide_eq_false agh
   refine jd 4 [0]<|js 113 (decide (dZ.ou=(-1))) (fun Zx=>?_) (fun Zx=>?_)
   ·
    have xL:=Zx
    replace xL:=of_decide_eq_true xL
    refine jd 5 [0]<|js 118 (decide (dZ.cls=(-1))) (fun TW=>?_) (fun TW=>?_)
    ·
     have GJ:=TW
     replace GJ:=of_decide_eq_true GJ
     refine jd 7 [0]<|zJ 124 ((Ey.dX.length:Int)=0) (fun WR=>?_) fun WR=>?_
     ·
      exfalso;(try simp only[Bool.or_eq_true,Bool.and_eq_true,decide_eq_true_eq,Bool.not_eq_true',decide_eq_false_iff_not] at WR);omega
     refine zD 7<|aE q0 (zI 0) [] [] [] (Sub.refl _) ⟨_,_,rfl,rfl,rfl,rfl⟩
    have GJ:=TW
    replace GJ:=of_decide_eq_false GJ
    refine zD 14<|aE q0 (zI 0) [] [] [] (Sub.refl _) ⟨_,_,rfl,rfl,rfl,rfl⟩
   have xL:=Zx
   replace xL:=of_decide_eq_false xL
   refine zD 19<|aE q0 (zI 0) [] [] [] (Sub.refl _) ⟨_,_,rfl,rfl,rfl,rfl⟩
  have IB:=Qb
  replace IB:=of_decide_eq_true (by simpa using IB)
  refine jd 15 [0]<|js 113 (decide (dZ.ou=(-1))) (fun Zw=>?_) (fun Zw=>?_)
  ·
   have age:=Zw
   replace age:=of_decide_eq_true age
   refine jd 5 [0]<|js 118 (decide (dZ.cls=(-1))) (fun h21=>?_) (fun h21=>?_)
   ·
    have agd:=h21
    replace agd:=of_decide_eq_true agd
    refine jd 7 [0]<|zJ 124 ((Ey.dX.length:Int)=0) (fun J3=>?_) fun J3=>?_
    ·
     exfalso;(try simp only[Bool.or_eq_true,Bool.and_eq_true,decide_eq_true_eq,Bool.not_eq_true',decide_eq_false_iff_not] at J3);omega
    refine zD 7<|aE q0 (zI 0) [] [] [] (Sub.refl _) ⟨_,_,rfl,rfl,rfl,rfl⟩
   have agd:=h21
   replace agd:=of_decide_eq_false agd
   refine zD 14<|aE q0 (zI 0) [] [] [] (Sub.refl _) ⟨_,_,rfl,rfl,rfl,rfl⟩
  have age:=Zw
  replace age:=of_decide_eq_false age
  refine zD 19<|aE q0 (zI 0) [] [] [] (Sub.refl _) ⟨_,_,rfl,rfl,rfl,rfl⟩
 have xV:=h4
 replace xV:=of_decide_eq_false xV
 refine jd 21 [0,1]<|ja ((cs.length:Int)-1) (by omega)<|jp (vs:=[zI dZ.cls,zI (-1),zI ((cs.length:Int)-1)]) [] [] (fun aB hs hZ=>jb)<|zD 3<|js 41 (!(iu dZ.cls (-1) ((cs.length:Int)-1))) (fun EU=>?_) (fun EU=>?_)
 ·
  try simp only[zB] at EU
  exfalso;simp only[iu,Bool.and_eq_false_iff,decide_eq_false_iff_not] at EU;omega
 try simp only[zB] at EU
 refine jd 6 [0]<|ja ((hv.length:Int)-1) (by omega)<|jp (vs:=[zI dZ.ou,zI (-1),zI ((hv.length:Int)-1)]) [] [] (fun aB hs hZ=>jb)<|zD 3<|js 41 (!(iu dZ.ou (-1) ((hv.length:Int)-1))) (fun h24=>?_) (fun h24=>?_)
 ·
  try simp only[zB] at h24
  exfalso;simp only[iu,Bool.and_eq_false_iff,decide_eq_false_iff_not] at h24;omega
 try simp only[zB] at h24
 refine jd 9 [0]<|zJ 57 (dZ.ou=(i:Int)) (fun h25=>?_) fun h25=>?_
 ·
  exfalso;omega
 refine jd 11 [0]<|dW [1,1,1,0,1,0,0] [] (fun(zz:Nat)=>[(1,zI (i:Int)),(5,.slice dN hv.length dD),(6,zP b6),(63,.slice fI Ey.dX.length eX),(64,zI (Ey.dX.length:Int)),(65,zI (zz:Int))]) (fun(zz:Nat)=>[.b b6 (.cells ⟨[.string dZ.word,zI dZ.cls,zI dZ.ou,.slice fI Ey.dX.length eX]⟩ 143 (0,0))]) (fun(zz:Nat)=>zz≤Ey.dX.length) (fun(zz:Nat)=>Ey.dX.length-zz) 0 (by omega) [0] ?_
 rintro k hI K4 hK4 rest
 refine zD 5<|zJ 66 ((k:Int) <(Ey.dX.length:Int)) (fun Zv=>?_) fun Zv=>?_
 ·
  refine zD 7 ?_
  obtain⟨x68,Mb⟩:=zG Ey.dX k
  refine iK eX 1 lG Mb<|jl 0 (mH _ _ Mb)<|zD 5 ?_
  have aSf:=HH.2.2 _ (List.mem_of_getElem? Mb)
  refine zD 4<|ja ((hv.length:Int)-1) (by omega)<|jp (vs:=[zI x68,zI 0,zI ((hv.length:Int)-1)]) [] [] (fun aB hs hZ=>jb)<|zD 3<|js 70 (!(iu x68 0 ((hv.length:Int)-1))) (fun h27=>?_) (fun h27=>?_)
  ·
   try simp only[zB] at h27
   exfalso;simp only[iu,Bool.and_eq_false_iff,decide_eq_false_iff_not] at h27;omega
  try simp only[zB] at h27
  refine zD 8<|zJ 77 (x68=(i:Int)) (fun Zu=>?_) fun Zu=>?_
  ·
   exfalso;omega
  refine zD 6<|js 84 (decide ((k:Int)>0)) (fun h29=>?_) (fun h29=>?_)
  ·
   have af8:=h29
   replace af8:=of_decide_eq_true af8
   refine jd 4 [0]<|ja ((k:Int)-1) (by omega) ?_
   obtain⟨x90,S3⟩:=zG Ey.dX (((k:Int)-1).toNat)
   refine Nk ((k:Int)-1) eX 1 lG S3 (by omega)<|jl 0 (mH _ _ S3)<|zD 4<|zJ 81 (x68≤x90) (fun Zt=>?_) fun Zt=>?_
   ·
    exfalso;have:=p8 HH.2.1 (show ((k:Int)-1).toNat <k by omega) S3 Mb;omega
   refine zD 3<|ja ((k:Int)+1) (by omega)<|zD 2<|bO hK4 (k+1) (by omega) (by omega) [0] (Sub.refl _)
  have af8:=h29
  replace af8:=of_decide_eq_false af8
  refine zD 14<|ja ((k:Int)+1) (by omega)<|zD 2<|bO hK4 (k+1) (by omega) (by omega) [0] (Sub.refl _)
 refine jd 9 [0]<|js 98 (!decide (dZ.ou=(-1))) (fun h31=>?_) (fun h31=>?_)
 ·
  have af6:=h31
  replace af6:=of_decide_eq_false (by simpa using af6)
  refine jd 4 [0]<|js 102 (!decide (dZ.cls=(-1))) (fun h32=>?_) (fun h32=>?_)
  ·
   have af4:=h32
   replace af4:=of_decide_eq_false (by simpa using af4)
   refine zD 29 ?_
   exfalso;omega
  have af4:=h32
  replace af4:=of_decide_eq_true (by simpa using af4)
  refine jd 7 [0]<|js 109 (decide ((Ey.dX.length:Int)>0)) (fun h33=>?_) (fun h33=>?_)
  ·
   have af3:=h33
   replace af3:=of_decide_eq_true af3
   refine zD 22 ?_
   exfalso;omega
  have af3:=h33
  replace af3:=of_decide_eq_false af3
  refine jd 4 [0]<|js 113 (decide (dZ.ou=(-1))) (fun h34=>?_) (fun h34=>?_)
  ·
   have af2:=h34
   replace af2:=of_decide_eq_true af2
   refine jd 5 [0]<|js 118 (decide (dZ.cls=(-1))) (fun h35=>?_) (fun h35=>?_)
   ·
    have af1:=h35
    replace af1:=of_decide_eq_true af1
    refine jd 7 [0]<|zJ 124 ((Ey.dX.length:Int)=0) (fun h36=>?_) fun h36=>?_
    ·
     exfalso;(try simp only[Bool.or_eq_true,Bool.and_eq_true,decide_eq_true_eq,Bool.not_eq_true',decide_eq_false_iff_not] at h36);omega
    refine zD 7<|aE q0 (zI 0) [] [] [] (Sub.refl _) ⟨_,_,rfl,rfl,rfl,rfl⟩
   have af1:=h35
   replace af1:=of_decide_eq_false af1
   refine zD 14<|aE q0 (zI 0) [] [] [] (Sub.refl _) ⟨_,_,rfl,rfl,rfl,rfl⟩
  have af2:=h34
  replace af2:=of_decide_eq_false af2
  refine zD 19<|aE q0 (zI 0) [] [] [] (Sub.refl _) ⟨_,_,rfl,rfl,rfl,rfl⟩
 have af6:=h31
 replace af6:=of_decide_eq_true (by simpa using af6)
 refine jd 15 [0]<|js 113 (decide (dZ.ou=(-1))) (fun h37=>?_) (fun h37=>?_)
 ·
  have af0:=h37
  replace af0:=of_decide_eq_true af0
  refine jd 5 [0]<|js 118 (decide (dZ.cls=(-1))) (fun h38=>?_) (fun h38=>?_)
  ·
   have afZ:=h38
   replace afZ:=of_decide_eq_true afZ
   refine jd 7 [0]<|zJ 124 ((Ey.dX.length:Int)=0) (fun h39=>?_) fun h39=>?_
   ·
    exfalso;(try simp only[Bool.or_eq_true,Bool.and_eq_true,decide_eq_true_eq,Bool.not_eq_true',decide_eq_false_iff_not] at h39);omega
   refine zD 7<|aE q0 (zI 0) [] [] [] (Sub.refl _) ⟨_,_,rfl,rfl,rfl,rfl⟩
  have afZ:=h38
  replace afZ:=of_decide_eq_false afZ
  refine zD 14<|aE q0 (zI 0) [] [] [] (Sub.refl _) ⟨_,_,rfl,rfl,rfl,rfl⟩
 have af0:=h37
 replace af0:=of_decide_eq_false af0
 refine zD 19<|aE q0 (zI 0) [] [] [] (Sub.refl _) ⟨_,_,rfl,rfl,rfl,rfl⟩
theorem U9{hv:List bu}{ro:Nat→Option Obj}(hR:jM ro vc vh cs hv hd)(oF:dj dC hv hd)(hT:lA cs hd):de zT 154 [.agg ⟨[vc,vh]⟩] ro (zI 0):=by
 obtain⟨hc,hh,cY⟩:=id hR
 obtain⟨eL,Bh,Bg,eH,rfl,DO,zb,za⟩:=hc
 obtain⟨dN,u4,u3,dD,rfl,xD,qV,qU⟩:=hh
 have Df:=hT.nc
 have hnh:=hT.nh
 have hlen:=oF.len
 refine bA au [] [] a8<|zD 2<|jn fun b1=>jd 10 [0]<|jj 5 [(1,zP b1),(2,zI 0),(16,.bool ((decide ((cs.length:Int)>6))||(decide ((hv.length:Int)>6))))] (fun gT=>?_) (fun hj=>?_)
 rotate_left
 refine js 11 (decide ((cs.length:Int)>6)) (fun h1=>?_) (fun h1=>?_)
 ·
  have gx:=h1
  replace gx:=of_decide_eq_true gx
  refine zD 5<|jw 16 (.bool ((decide ((cs.length:Int)>6))||(decide ((hv.length:Int)>6)))) (w:= .bool true) (by rw[h1]<;>rfl) ?_
  exact hj _ (by kernel_rfl) (by kernel_rfl)
 ·
  have gx:=h1
  replace gx:=of_decide_eq_false gx
  refine jd 5 [0]<|jw 16 (.bool ((decide ((cs.length:Int)>6))||(decide ((hv.length:Int)>6)))) (w:= .bool (decide ((hv.length:Int)>6))) (by rw[h1]<;>rfl) ?_
  exact hj _ (by kernel_rfl) (by kernel_rfl)
 refine zD 1<|js 16 ((decide ((cs.length:Int)>6))||(decide ((hv.length:Int)>6))) (fun h2=>?_) (fun h2=>?_)
 ·
  try simp only[zB] at h2
  exfalso;omega
 try simp only[zB] at h2
 refine jd 11 [0]<|dW [1,1,0,1,0,0] [] (fun(zz:Nat)=>[(1,zP b1),(19,zI (cs.length:Int)),(20,zI (zz:Int))]) (fun(zz:Nat)=>[.b b1 (.cells ⟨[.slice eL cs.length eH,.slice dN hv.length dD]⟩ 35 (0,0))]) (fun(zz:Nat)=>zz≤cs.length) (fun(zz:Nat)=>cs.length-zz) 0 (by omega) [0] ?_
 rintro k hI K1 bK rest
 refine zD 5<|zJ 21 ((k:Int) <(cs.length:Int)) (fun h3=>?_) fun h3=>?_
 ·
  refine jd 14 [0]<|jp (vs:=[.slice eL cs.length eH,zI (k:Int)]) [] [] (fun aB hs hZ=>ap7 ((show bE _ _ _ _ _ from ⟨eL,Bh,Bg,eH,rfl,DO,zb,za⟩).up hs) hT (by omega))<|zD 10<|ja ((k:Int)+1) (by omega)<|zD 2<|bO bK (k+1) (by omega) (by omega) [0] (Sub.refl _)
 refine jd 11 [0]<|dW [1,1,1,0,1,0,0] [] (fun(zz:Nat)=>[(1,zP b1),(33,zI (hv.length:Int)),(34,zI (zz:Int))]) (fun(zz:Nat)=>[.b b1 (.cells ⟨[.slice eL cs.length eH,.slice dN hv.length dD]⟩ 35 (0,0))]) (fun(zz:Nat)=>zz≤hv.length) (fun(zz:Nat)=>hv.length-zz) 0 (by omega) [0] ?_
 rintro j hJ K2 lg rest
 refine zD 5<|zJ 35 ((j:Int) <(hv.length:Int)) (fun h4=>?_) fun h4=>?_
 ·
  refine jd 13 [0]<|jp (vs:=[.agg ⟨[.slice eL cs.length eH,.slice dN hv.length dD]⟩,zI (j:Int)]) [] [] (fun aB hs hZ=>(axX (hR.up hs) oF hT (by omega)))<|zD 10<|ja ((j:Int)+1) (by omega)<|zD 2<|bO lg (j+1) (by omega) (by omega) [0] (Sub.refl _)
 refine zD 7<|aE q0 (zI 0) [] [] [] (Sub.refl _) ⟨_,_,rfl,rfl,rfl,rfl⟩
theorem ap8{hv:List bu}{ro:Nat→Option Obj}(hR:jM ro vc vh cs hv hd)(oF:dj dC hv hd)(hT:lA cs hd):de zT 119 [.agg ⟨[vc,vh]⟩] ro (zI 0):=by
 obtain⟨hc,hh,cY⟩:=id hR
 obtain⟨eL,Bh,Bg,eH,rfl,DO,zb,za⟩:=hc
 obtain⟨dN,u4,u3,dD,rfl,xD,qV,qU⟩:=hh
 have Df:=hT.nc
 have hnh:=hT.nh
 have hlen:=oF.len
 refine bA au [] [] a8<|zD 2<|jn fun b1=>jd 5 [0]<|jp (vs:=[.agg ⟨[.slice eL cs.length eH,.slice dN hv.length dD]⟩]) [] [] (fun aB hs hZ=>(U9 (hR.up hs) oF hT))<|zD 3<|aE q0 (zI 0) [] [] [] (Sub.refl _) ⟨_,_,rfl,rfl,rfl,rfl⟩
def IF(a b:ByteArray):Int:=bif strLt a b then-1 else bif !(strLt a b||cN a b) then 1 else 0
def MN:List ByteArray→List ByteArray→Int
 | [],[]=>0
 | [],_::_=> -1
 |_::_,[]=>1
 |x::xs,y::ys=>if IF x y=0 then MN xs ys else IF x y
theorem Xc{y:ByteArray}(hx:xs[k]?=some x) (hy:ys[k]?=some y):MN (xs.drop k) (ys.drop k)=if IF x y=0 then MN (xs.drop (k+1)) (ys.drop (k+1)) else IF x y:=by rw[fN hx,fN hy];rfl
theorem ahi(hx:xs[k]?=some x) (hy:¬k <ys.length):MN (xs.drop k) (ys.drop k)=1:=by rw[fN hx,eA hy];rfl
theorem QF(hx:¬k <xs.length):MN (xs.drop k) (ys.drop k)=if k <ys.length then-1 else 0:=by
 rw[eA hx]
 split
 ·rename_i h
  rw[List.drop_eq_getElem_cons h];rfl
 rename_i h
 rw[eA h];rfl
def sE(s p:ByteArray):Bool:=decide (s.size≥p.size)&&cN (s.extract 0 p.size) p
structure ak where
 h:Int
 n:Int
 l:Int
abbrev cE(x:ak):List Value:=[zI x.h,zI x.n,zI x.l]
def pg(h n l:Int)(y:ak):Bool:=h==y.h&&(n==y.n&&(l==y.l&&true)&&true)
theorem aFY{a:ByteArray}{ro:Nat→Option Obj}:de zT 282 [.string a] ro (.bool false):=by
 refine bA au [] [] a8<|zD 12<|aE q0 (.bool (!(cN a a))) [] [] [] (Sub.refl _) ⟨_,_,rfl,rfl,by rw[By.2 rfl];rfl,rfl⟩
theorem aUh{a b:ByteArray}{ro:Nat→Option Obj}:de zT 258 [.string a,.string b] ro (zI (IF a b)):=by
 refine bA au [] [] a8<|zD 7<|jp (vs:=[.string a]) [] [] (fun aB hs hZ=>aFY)<|zD 5<|jp (vs:=[.string b]) [] [] (fun aB hs hZ=>aFY)<|zD 23<|js 16 (strLt a b) (fun h1=>?_) (fun h1=>?_)
 ·
  refine zD 6<|aE q0 (zI (-1)) [] [] [] (Sub.refl _) ⟨_,_,rfl,rfl,by simp_all[IF],rfl⟩
 refine zD 9<|js 19 (!(strLt a b||cN a b)) (fun h2=>?_) (fun h2=>?_)
 ·
  try simp only[zB] at h2
  refine zD 6<|aE q0 (zI 1) [] [] [] (Sub.refl _) ⟨_,_,rfl,rfl,by simp_all[IF],rfl⟩
 try simp only[zB] at h2
 refine zD 7<|aE q0 (zI 0) [] [] [] (Sub.refl _) ⟨_,_,rfl,rfl,by simp_all[IF],rfl⟩
theorem aMz{v w:Value}{ro:Nat→Option Obj}(hv:bE ro v 1 pN xs)(hw:bE ro w 1 pN ys)(hx:xs.length≤1000)(hy:ys.length≤1000):de zT 238 [v,w] ro (zI (MN xs ys)):=by
 obtain⟨KZ,qvb,qvo,Ba,rfl,qvk,Oi,Oh⟩:=hv
 obtain⟨Sw,qwb,qwo,KY,rfl,qwk,qwh,qwl⟩:=hw
 refine bA au [] [] a8<|zD 12<|dW [1,0,1,0,0] [] (fun(zz:Nat)=>[(0,.slice KZ xs.length Ba),(1,.slice Sw ys.length KY),(9,.slice KZ xs.length Ba),(10,zI (xs.length:Int)),(11,zI (zz:Int))]) (fun(zz:Nat)=>[]) (fun(zz:Nat)=>(zz≤xs.length∧zz≤ys.length)∧MN xs ys=MN (xs.drop zz) (ys.drop zz)) (fun(zz:Nat)=>xs.length-zz) 0 ⟨by omega,rfl⟩ [] ?_
 rintro k hI K1 bK rest
 refine zD 5<|zJ 12 ((k:Int) <(xs.length:Int)) (fun h1=>?_) fun h1=>?_
 ·
  refine zD 7 ?_
  obtain⟨dZ,dw⟩:=zG xs k
  refine iK Ba 1 Oi dw<|jl 0 (Oh _ _ dw)<|zD 11<|zJ 19 ((k:Int)≥(ys.length:Int)) (fun h2=>?_) fun h2=>?_
  ·
   refine zD 6<|aE q0 (zI 1) [] [] [] (Sub.refl _) ⟨_,_,rfl,rfl,by rw[hI.2,ahi dw (by omega)],rfl⟩
  refine zD 6 ?_
  obtain⟨r8,tU⟩:=zG ys k
  refine iK KY 1 qwh tU<|jl 0 (qwl _ _ tU)<|zD 6<|jp (vs:=[.string dZ,.string r8]) [] [] (fun aB hs hZ=>aUh)<|zD 7<|js 28 (!decide ((IF dZ r8)=0)) (fun h3=>?_) (fun h3=>?_)
  ·
   replace h3:=of_decide_eq_false (by simpa using h3)
   refine zD 7<|aE q0 (zI (IF dZ r8)) [] [] [] (Sub.refl _) ⟨_,_,rfl,rfl,by rw[hI.2,Xc dw tU,if_neg (by omega)],rfl⟩
  replace h3:=of_decide_eq_true (by simpa using h3)
  refine zD 3<|ja ((k:Int)+1) (by omega)<|zD 2<|bO bK (k+1) ⟨by omega,by rw[hI.2,Xc dw tU,if_pos (by omega)]⟩ (by omega) [] (Sub.refl _)
 refine zD 11<|zJ 35 ((xs.length:Int) <(ys.length:Int)) (fun h4=>?_) fun h4=>?_
 ·
  refine zD 6<|aE q0 (zI (-1)) [] [] [] (Sub.refl _) ⟨_,_,rfl,rfl,by rw[hI.2,QF (by omega),if_pos (by omega)],rfl⟩
 refine zD 7<|aE q0 (zI 0) [] [] [] (Sub.refl _) ⟨_,_,rfl,rfl,by rw[hI.2,QF (by omega),if_neg (by omega)],rfl⟩
theorem Zl{a b:ByteArray}{ro:Nat→Option Obj}(hn:a.size≤1000∧b.size≤1000):de zT 307 [.string a,.string b] ro (.bool (sE a b)):=by
 refine bA au [] [] a8<|zD 12<|js 10 (decide ((a.size:Int)≥(b.size:Int))) (fun h1=>?_) (fun h1=>?_)
 ·
  have gx:=h1
  replace gx:=of_decide_eq_true gx
  refine zD 3<|jtH (b:=a) (hi:=(b.size:Int)) (by omega)<|zD 6<|aE q0 (.bool (cN (a.extract 0 (b.size:Int).toNat) b)) [] [] [] (Sub.refl _) ⟨_,_,rfl,rfl,by simp_all[sE]<;>(intro;omega),rfl⟩
 have gx:=h1
 replace gx:=of_decide_eq_false gx
 refine zD 10<|aE q0 (.bool false) [] [] [] (Sub.refl _) ⟨_,_,rfl,rfl,by simp_all[sE]<;>(intro;omega),rfl⟩
theorem Zm{a b:ByteArray}{ro:Nat→Option Obj}(hn:a.size≤1000∧b.size≤1000):de zT 299 [.string a,.string b] ro (.bool (sE a b)):=by
 refine bA au [] [] a8<|zD 8<|jp (vs:=[.string a,.string b]) [] [] (fun aB hs hZ=>(Zl (by omega)))<|zD 3<|aE q0 (.bool (sE a b)) [] [] [] (Sub.refl _) ⟨_,_,rfl,rfl,rfl,rfl⟩
theorem adL{v:Value}{ps:List ak}{h l:Int}{ro:Nat→Option Obj}(hp:bE ro v 3 cE ps)(hn:ps.length≤1000):de zT 124 [v,.agg ⟨[zI h,zI n,zI l]⟩] ro (zI (bG (pg h n l) ps 0)):=by
 obtain⟨Q9,qpb,qpo,Ji,rfl,qpk,Yi,Yh⟩:=hp
 refine bA au [] [] a8<|zD 2<|jn fun b3=>zD 10<|dW [1,0,1,0,0] [] (fun(zz:Nat)=>[(0,.slice Q9 ps.length Ji),(3,zP b3),(7,zI (ps.length:Int)),(8,zI (zz:Int))]) (fun(zz:Nat)=>[.b b3 (.cells ⟨[zI h,zI n,zI l]⟩ 164 (0,0))]) (fun(zz:Nat)=>zz≤ps.length∧bG (pg h n l) ps 0=bG (pg h n l) (ps.drop zz) zz) (fun(zz:Nat)=>ps.length-zz) 0 ⟨by omega,rfl⟩ [0] ?_
 rintro k hI K1 bK rest
 refine zD 5<|zJ 9 ((k:Int) <(ps.length:Int)) (fun h1=>?_) fun h1=>?_
 ·
  refine jd 14 [0] ?_
  obtain⟨dZ,dw⟩:=zG ps k
  refine iK Ji 3 Yi dw<|jl 0 (Yh _ _ dw)<|jeq azD (auS h n l dZ.h dZ.n dZ.l)<|zD 1<|js 16 (h==dZ.h&&(n==dZ.n&&(l==dZ.l&&true)&&true)) (fun h2=>?_) (fun h2=>?_)
  ·
   refine zD 7<|aE q0 (zI (k:Int)) [] [] [] (Sub.refl _) ⟨_,_,rfl,rfl,by rw[hI.2,gH dw,show pg h n l dZ=true from (by assumption)];rfl,rfl⟩
  refine zD 3<|ja ((k:Int)+1) (by omega)<|zD 2<|bO bK (k+1) ⟨by omega,by rw[hI.2,gH dw,show pg h n l dZ=false from (by assumption)];rfl⟩ (by omega) [0] (Sub.refl _)
 refine zD 7<|aE q0 (zI (-1)) [] [] [] (Sub.refl _) ⟨_,_,rfl,rfl,by rw[hI.2,mU (by omega)],rfl⟩
theorem JM{v:Value}{ps:List ak}{h l:Int}{ro:Nat→Option Obj}(hp:bE ro v 3 cE ps)(hn:ps.length≤1000):de zT 88 [v,.agg ⟨[zI h,zI n,zI l]⟩] ro (.bool (decide (bG (pg h n l) ps 0≥0))):=by
 obtain⟨Q9,qpb,qpo,Ji,rfl,qpk,Yi,Yh⟩:=hp
 refine bA au [] [] a8<|zD 2<|jn fun b3=>jd 6 [0]<|jp (vs:=[.slice Q9 ps.length Ji,.agg ⟨[zI h,zI n,zI l]⟩]) [] [] (fun aB hs hZ=>adL ((show bE _ _ _ _ _ from ⟨Q9,qpb,qpo,Ji,rfl,qpk,Yi,Yh⟩).up hs) (by first|omega| (simp only[List.length_set,List.length_append,List.length_cons,List.length_nil];omega))) ?_
 refine zD 4<|aE q0 (.bool (decide ((bG (pg h n l) ps 0)≥0))) [] [] [] (Sub.refl _) ⟨_,_,rfl,rfl,rfl,rfl⟩
theorem acU{v:Value}{ws:List ByteArray}{ro:Nat→Option Obj}(hv:bE ro v 1 pN ws)(hn:ws.length≤1000)(hW:∀w∈ws,(1≤w.size∧w.size≤6)∧Script w):de zT 215 [v] ro (zI 0):=by
 obtain⟨KZ,qvb,qvo,Ba,rfl,qvk,Oi,Oh⟩:=hv
 refine bA au [] [] a8<|zD 12<|dW [1,0,1,0,0] [] (fun(zz:Nat)=>[(6,.slice KZ ws.length Ba),(7,zI (ws.length:Int)),(8,zI (zz:Int))]) (fun(zz:Nat)=>[]) (fun(zz:Nat)=>zz≤ws.length) (fun(zz:Nat)=>ws.length-zz) 0 (by omega) [] ?_
 rintro k hI K1 bK rest
 refine zD 5<|zJ 9 ((k:Int) <(ws.length:Int)) (fun h1=>?_) fun h1=>?_
 ·
  refine zD 6 ?_
  obtain⟨x10,rQ⟩:=zG ws k
  refine iK Ba 1 Oi rQ<|jl 0 (Oh _ _ rQ)<|zD 5<|jp (vs:=[.string x10]) [] [] (fun aB hs hZ=>(SJ (hW _ (List.mem_of_getElem? rQ)).1 (hW _ (List.mem_of_getElem? rQ)).2))<|zD 10<|ja ((k:Int)+1) (by omega)<|zD 2<|bO bK (k+1) (by omega) (by omega) [] (Sub.refl _)
 refine zD 7<|aE q0 (zI 0) [] [] [] (Sub.refl _) ⟨_,_,rfl,rfl,rfl,rfl⟩
def xz(w:ByteArray):Prop:=∀b∈w.data.toList,b.toNat <128∧kindOf (b.toNat:Int)=1
def aks(w:ByteArray):Bool:=w.data.toList.all fun b=>Nat.blt b.toNat 128&&decide (kindOf (b.toNat:Int)=1)
theorem F3{w:ByteArray}(h:aks w=true):xz w:=fun b hb=>by
 have:=List.all_eq_true.1 h b hb
 simp only[Bool.and_eq_true,Nat.blt_eq,decide_eq_true_eq] at this
 exact this
def Vj(r:cM):Bool:=(Nat.ble 1 r.f.size&&Nat.ble r.f.size 2)&&(Nat.ble r.t.size 2&&(aks r.f&&(aks r.t&& !cN r.f r.t)))
theorem X4:(aoL.all fun f=>toW.all fun t=>Vj ⟨f,t⟩)=true:=by kernel_rfl
structure rB(r:cM):Prop where
 f1:1≤r.f.size∧r.f.size≤2
 t1:r.t.size≤2
 fl:xz r.f
 tl:xz r.t
 ne:cN r.f r.t=false
theorem aqh{r:cM}(h:Hz r):rB r:=by
 have:=List.all_eq_true.1 (List.all_eq_true.1 X4 r.f h.1) r.t h.2
 simp only[Vj,Bool.and_eq_true,Nat.ble_eq,Bool.not_eq_true'] at this
 exact⟨this.1,this.2.1,F3 this.2.2.1,F3 this.2.2.2.1,this.2.2.2.2⟩
theorem azH{ro:Nat→Option Obj}:de zT 252 [.int .i32 r] ro (.bool (!decide (kindOf r=1))):=by
 refine bA au [] [] a8<|zD 7<|jp (vs:=[.int .i32 r]) [] [] (fun aB hs hZ=>anK)<|zD 4<|aE q0 (.bool (!decide ((kindOf r)=1))) [] [] [] (Sub.refl _) ⟨_,_,rfl,rfl,rfl,rfl⟩
theorem aMy{w:ByteArray}{ro:Nat→Option Obj}(hK:xz w):de zT 290 [.string w,.func (.func 252) ⟨[]⟩ ⟨[]⟩,.bool true] ro (zI (-1)):=by
 refine bA au [] [] a8<|zD 8<|jn fun r10=>zD 2<|dW [1,0,1,0,0] [] (fun(zz:Nat)=>[(1,.func (.func 252) ⟨[]⟩ ⟨[]⟩),(2,.bool true),(10,zP r10)]) (fun(zz:Nat)=>[.b r10 (.stringIter w zz)]) (fun(zz:Nat)=>zz≤w.data.toList.length) (fun(zz:Nat)=>w.data.toList.length-zz) 0 (by omega) [0] ?_
 rintro p hI K1 bK rest
 refine zD 2 ?_
 cases Ze:w.data.toList[p]? with
 |some x11=>
  refine jnA r10 0 Ze (hK _ (List.mem_of_getElem? Ze)).1<|zD 14 ?_
  have Wy:=(hK _ (List.mem_of_getElem? Ze)).2
  refine zD 3<|jp (vs:=[.int .i32 (x11.toNat:Int)]) [] [] (fun aB hs hZ=>azH)<|zD 1<|je (.bool ((!decide (kindOf (x11.toNat:Int)=1))==true)) rfl<|zD 1<|js 19 ((!decide (kindOf (x11.toNat:Int)=1))==true) (fun h1=>?_) (fun h1=>?_)
  ·
   exfalso;rw[Wy] at h1;cases h1
  refine zD 2<|bO bK (p+1) (by have:=(List.getElem?_eq_some_iff.1 Ze).1;omega) (by have:=(List.getElem?_eq_some_iff.1 Ze).1;omega) [0] (Sub.refl _)
 |none=>
  refine jnZ r10 0 Ze<|zD 10<|aE q0 (zI (-1)) [] [] [] (Sub.refl _) ⟨_,_,rfl,rfl,rfl,rfl⟩
theorem ayc{w:ByteArray}{ro:Nat→Option Obj}(hK:xz w):de zT 273 [.string w,.func (.func 252) ⟨[]⟩ ⟨[]⟩] ro (zI (-1)):=by
 refine bA au [] [] a8<|zD 8<|jp (vs:=[.string w,.func (.func 252) ⟨[]⟩ ⟨[]⟩,.bool true]) [] [] (fun aB hs hZ=>(aMy hK))<|zD 3<|aE q0 (zI (-1)) [] [] [] (Sub.refl _) ⟨_,_,rfl,rfl,rfl,rfl⟩
theorem aye{w:ByteArray}{ro:Nat→Option Obj}(hK:xz w):de zT 251 [.string w,.func (.func 252) ⟨[]⟩ ⟨[]⟩] ro (.bool false):=by
 refine bA au [] [] a8<|zD 8<|jp (vs:=[.string w,.func (.func 252) ⟨[]⟩ ⟨[]⟩]) [] [] (fun aB hs hZ=>(ayc hK))<|zD 4<|aE q0 (.bool false) [] [] [] (Sub.refl _) ⟨_,_,rfl,rfl,rfl,rfl⟩
theorem O1{w:ByteArray}{ro:Nat→Option Obj}(hK:xz w)(hn:w.size≤1000):de zT 234 [.string w,zI lo,zI hi] ro (.bool (decide (lo≤w.size)&&decide ((w.size:Int)≤hi))):=by
 refine bA au [] [] a8<|zD 11<|jj 5 [(0,.string w),(6,.bool false),(16,.bool ((decide (lo≤(w.size:Int)))&&(decide ((w.size:Int)≤hi))))] (fun gT=>?_) (fun hj=>?_)
 rotate_left
 refine js 11 (decide (lo≤(w.size:Int))) (fun h1=>?_) (fun h1=>?_)
 ·
  have gx:=h1
  replace gx:=of_decide_eq_true gx
  refine zD 5<|jw 16 (.bool ((decide (lo≤(w.size:Int)))&&(decide ((w.size:Int)≤hi)))) (w:= .bool (decide ((w.size:Int)≤hi))) (by rw[h1]<;>rfl) ?_
  exact hj _ (by kernel_rfl) (by kernel_rfl)
 ·
  have gx:=h1
  replace gx:=of_decide_eq_false gx
  refine zD 5<|jw 16 (.bool ((decide (lo≤(w.size:Int)))&&(decide ((w.size:Int)≤hi)))) (w:= .bool false) (by rw[h1]<;>rfl) ?_
  exact hj _ (by kernel_rfl) (by kernel_rfl)
 refine zD 1<|jj 4 [(6,.bool false),(21,.bool (((decide (lo≤(w.size:Int)))&&(decide ((w.size:Int)≤hi)))&&true))] (fun gT=>?_) (fun hj=>?_)
 rotate_left
 refine js 17 ((decide (lo≤(w.size:Int)))&&(decide ((w.size:Int)≤hi))) (fun h2=>?_) (fun h2=>?_)
 ·
  have my:=h2
  try simp only[zB] at my
  refine zD 1<|jp (vs:=[.string w,.func (.func 252) ⟨[]⟩ ⟨[]⟩]) [] [] (fun aB hs hZ=>(aye hK))<|zD 2<|jw 21 (.bool (((decide (lo≤(w.size:Int)))&&(decide ((w.size:Int)≤hi)))&&true)) (w:= .bool true) (by rw[h2]<;>rfl) ?_
  exact hj _ (by kernel_rfl) (by kernel_rfl)
 ·
  have my:=h2
  try simp only[zB] at my
  refine zD 4<|jw 21 (.bool (((decide (lo≤(w.size:Int)))&&(decide ((w.size:Int)≤hi)))&&true)) (w:= .bool false) (by rw[h2]<;>rfl) ?_
  exact hj _ (by kernel_rfl) (by kernel_rfl)
 refine zD 3<|aE q0 (.bool (((decide (lo≤(w.size:Int)))&&(decide ((w.size:Int)≤hi)))&&true)) [] [] [] (Sub.refl _) ⟨_,_,rfl,rfl,by simp_all,rfl⟩
theorem Jy{w:ByteArray}{ro:Nat→Option Obj}(hK:xz w)(h1:lo≤w.size)(h2:(w.size:Int)≤hi)(h3:w.size≤1000):de zT 234 [.string w,zI lo,zI hi] ro (.bool true):=by
 have:=O1 (ro:=ro) hK h3 (lo:=lo) (hi:=hi)
 rw[decide_eq_true h1,decide_eq_true h2] at this
 exact this
theorem Yy{v:Value}{ro:Nat→Option Obj}(hv:bE ro v 2 jI rs)(hn:rs.length≤4)(hR:∀r∈rs,rB r):de zT 214 [v] ro (zI 0):=by
 obtain⟨KZ,qvb,qvo,Ba,rfl,qvk,Oi,Oh⟩:=hv
 refine bA au [] [] a8<|zD 11<|zJ 7 ((rs.length:Int)>4) (fun h1=>?_) fun h1=>?_
 ·
  exfalso;omega
 refine zD 10<|dW [1,1,0,1,0,0] [] (fun(zz:Nat)=>[(8,.slice KZ rs.length Ba),(9,zI (rs.length:Int)),(10,zI (zz:Int))]) (fun(zz:Nat)=>[]) (fun(zz:Nat)=>zz≤rs.length) (fun(zz:Nat)=>rs.length-zz) 0 (by omega) [] ?_
 rintro k hI K1 bK rest
 refine zD 5<|zJ 11 ((k:Int) <(rs.length:Int)) (fun h2=>?_) fun h2=>?_
 ·
  refine zD 6 ?_
  obtain⟨th,qk⟩:=zG rs k
  refine iK Ba 2 Oi qk<|jl 0 (Oh _ _ qk)<|jn fun b4=>jd 3 [0] ?_
  have hrp:=(hR _ (List.mem_of_getElem? qk))
  have hrf:=hrp.f1
  have hrt:=hrp.t1
  refine jd 3 [0]<|jp (vs:=[.string th.f,zI 1,zI 2]) [] [] (fun aB hs hZ=>(Jy hrp.fl (by omega) (by omega) (by omega)))<|jd 4 [0]<|jp (vs:=[.string th.t,zI 0,zI 2]) [] [] (fun aB hs hZ=>(Jy hrp.tl (by omega) (by omega) (by omega)))<|jd 10 [0,0]<|js 30 (cN th.f th.t) (fun h3=>?_) (fun h3=>?_)
  ·
   exfalso;rw[hrp.ne] at h3;cases h3
  refine zD 3<|ja ((k:Int)+1) (by omega)<|zD 2<|bO bK (k+1) (by omega) (by omega) [] (Sub.refl _)
 refine zD 7<|aE q0 (zI 0) [] [] [] (Sub.refl _) ⟨_,_,rfl,rfl,rfl,rfl⟩
def uR:List Int→Int
 | []=>0
 |x::xs=>xs.foldl min x
def B3:List Int→Int
 | []=>0
 |x::xs=>xs.foldl max x
theorem aq9{xs:List Int}{x:Int}(h:xs[0]?=some x):uR xs=(xs.drop 1).foldl min x:=by
 cases xs with
 |nil=>cases h
 |cons y l=>simp at h;subst h;rfl
theorem ara{xs:List Int}{x:Int}(h:xs[0]?=some x):B3 xs=(xs.drop 1).foldl max x:=by
 cases xs with
 |nil=>cases h
 |cons y l=>simp at h;subst h;rfl
def vz(l:List Int):Int:=(l.filter fun x=>decide (x>0)).length
theorem Jo{l:List Int}{x:Int}(h:l[k]?=some x):vz (l.take (k+1))=vz (l.take k)+if x>0 then 1 else 0:=by
 rw[fx h,vz,List.filter_append,vz]
 by_cases hx:x>0<;>simp[hx]
structure ai where
 past:Int
 w0:Int
 w1:Int
 w2:Int
 w3:Int
 gone:Int
 new:Int
 af:Int
abbrev cm(x:ai):List Value:=[zI x.past,zI x.w0,zI x.w1,zI x.w2,zI x.w3,zI x.gone,zI x.new,zI x.af]
def cP(g n m:Int)(x:ai):Bool:=decide (x.gone≤g)&&(decide (x.new≤n)&&decide (x.af≤m))
def hasB(f i:Int):Bool:=decide (S0 .u8 (aR .u8 f i) 1=1)
theorem aMw{v:Value}{xs:List Int}{ro:Nat→Option Obj}(hl:bE ro v 1 cv xs)(hn:0 <xs.length∧xs.length≤1000000):de zT 111 [v] ro (zI (uR xs)):=by
 obtain⟨fI,rM,rK,eX,rfl,tG,lG,mH⟩:=hl
 refine bA au [] [] a8<|zD 11<|zJ 7 ((xs.length:Int) <1) (fun h1=>?_) fun h1=>?_
 ·
  exfalso;omega
 refine zD 5 ?_
 obtain⟨x10,rQ⟩:=zG xs 0
 refine iK eX 1 lG rQ<|jl 0 (mH _ _ rQ)<|zD 8<|dW [1,1,1,0,1,0,0] [] (fun(zz:Nat×Int)=>[(0,.slice fI xs.length eX),(2,zI 0),(3,zI zz.2),(4,zI (zz.1:Int))]) (fun(zz:Nat×Int)=>[]) (fun(zz:Nat×Int)=>(1≤zz.1∧zz.1≤xs.length)∧uR xs=(xs.drop zz.1).foldl min zz.2) (fun(zz:Nat×Int)=>xs.length-zz.1) (⟨1,x10⟩) ⟨by dsimp only;omega,aq9 rQ⟩ [] ?_
 rintro⟨k,m⟩ hI K1 bK rest
 dsimp only at hI
 refine zD 8<|zJ 15 ((k:Int) <(xs.length:Int)) (fun h2=>?_) fun h2=>?_
 ·
  refine zD 8 ?_
  obtain⟨ye,qj⟩:=zG xs k
  refine iK eX 1 lG qj<|jl 0 (mH _ _ qj)<|jmn (k:= .i64) (a:=m) (b:=ye)<|zD 4<|ja ((k:Int)+1) (by omega)<|zD 2<|bO bK (⟨k+1,(min m ye)⟩) ⟨by dsimp only;omega,by rw[hI.2,fN qj];rfl⟩ (by dsimp only;omega) [] (Sub.refl _)
 refine zD 8<|aE q0 (zI m) [] [] [] (Sub.refl _) ⟨_,_,rfl,rfl,by rw[hI.2,eA (by omega)];rfl,rfl⟩
theorem aMx{v:Value}{xs:List Int}{ro:Nat→Option Obj}(hl:bE ro v 1 cv xs)(hn:0 <xs.length∧xs.length≤1000000):de zT 112 [v] ro (zI (B3 xs)):=by
 obtain⟨fI,rM,rK,eX,rfl,tG,lG,mH⟩:=hl
 refine bA au [] [] a8<|zD 11<|zJ 7 ((xs.length:Int) <1) (fun h1=>?_) fun h1=>?_
 ·
  exfalso;omega
 refine zD 5 ?_
 obtain⟨x10,rQ⟩:=zG xs 0
 refine iK eX 1 lG rQ<|jl 0 (mH _ _ rQ)<|zD 8<|dW [1,1,1,0,1,0,0] [] (fun(zz:Nat×Int)=>[(0,.slice fI xs.length eX),(2,zI 0),(3,zI zz.2),(4,zI (zz.1:Int))]) (fun(zz:Nat×Int)=>[]) (fun(zz:Nat×Int)=>(1≤zz.1∧zz.1≤xs.length)∧B3 xs=(xs.drop zz.1).foldl max zz.2) (fun(zz:Nat×Int)=>xs.length-zz.1) (⟨1,x10⟩) ⟨by dsimp only;omega,ara rQ⟩ [] ?_
 rintro⟨k,m⟩ hI K1 bK rest
 dsimp only at hI
 refine zD 8<|zJ 15 ((k:Int) <(xs.length:Int)) (fun h2=>?_) fun h2=>?_
 ·
  refine zD 8 ?_
  obtain⟨ye,qj⟩:=zG xs k
  refine iK eX 1 lG qj<|jl 0 (mH _ _ qj)<|jmx (k:= .i64) (a:=m) (b:=ye)<|zD 4<|ja ((k:Int)+1) (by omega)<|zD 2<|bO bK (⟨k+1,(max m ye)⟩) ⟨by dsimp only;omega,by rw[hI.2,fN qj];rfl⟩ (by dsimp only;omega) [] (Sub.refl _)
 refine zD 8<|aE q0 (zI m) [] [] [] (Sub.refl _) ⟨_,_,rfl,rfl,by rw[hI.2,eA (by omega)];rfl,rfl⟩
theorem anW{v:Value}{xs:List Int}{ro:Nat→Option Obj}(hl:bE ro v 1 cv xs)(hn:0 <xs.length∧xs.length≤1000000):de zT 79 [v] ro (.agg ⟨[zI (uR xs),zI (B3 xs)]⟩):=by
 obtain⟨fI,rM,rK,eX,rfl,tG,lG,mH⟩:=hl
 refine bA au [] [] a8<|zD 2<|jn fun b2=>zD 4<|jp (vs:=[.slice fI xs.length eX]) [] [] (fun aB hs hZ=>aMw ((show bE _ _ _ _ _ from ⟨fI,rM,rK,eX,rfl,tG,lG,mH⟩).up hs) (by omega))<|zD 1<|jp (vs:=[.slice fI xs.length eX]) [] [] (fun aB hs hZ=>aMx ((show bE _ _ _ _ _ from ⟨fI,rM,rK,eX,rfl,tG,lG,mH⟩).up hs) (by omega))<|jd 4 [0]<|aE q0 (.agg ⟨[zI (uR xs),zI (B3 xs)]⟩) [0] [] [] (Sub.refl _) ⟨_,_,rfl,rfl,rfl,rfl⟩
theorem akP{x:ai}{ro:Nat→Option Obj}:de zT 78 [.agg ⟨[zI x.past,zI x.w0,zI x.w1,zI x.w2,zI x.w3,zI x.gone,zI x.new,zI x.af]⟩] ro (.bool true):=by
 refine bA au [] [] a8<|zD 2<|jn fun b1=>zD 7<|aE q0 (.bool true) [] [] [] (Sub.refl _) ⟨_,_,rfl,rfl,rfl,rfl⟩
theorem adJ{f:Nat}{x:ai}{c2 c3 c4:Value}{ro:Nat→Option Obj}(hf:ro f=some (.cells ⟨[c0,c1,c2,c3,c4,c5,c6,c7,zI gone,zI new,zI af,c11,vt]⟩ 128 (0,0))):de zT 91 [zP f,.agg ⟨[zI x.past,zI x.w0,zI x.w1,zI x.w2,zI x.w3,zI x.gone,zI x.new,zI x.af]⟩] ro (.bool (cP gone new af x)):=by
 refine bA au [] [] a8<|zD 2<|jn fun b3=>jd 10 [0]<|jl (b:=f) (off:=0) (m:=13) (vs:=[c0,c1,c2,c3,c4,c5,c6,c7,zI gone,zI new,zI af,c11,vt]) 8 ⟨_,_,_,.inl hf,rfl⟩<|zD 2<|js 8 (decide (x.gone≤gone)) (fun h1=>?_) (fun h1=>?_)
 ·
  have gx:=h1
  replace gx:=of_decide_eq_true gx
  refine jd 6 [0]<|jl (b:=f) (off:=0) (m:=13) (vs:=[c0,c1,c2,c3,c4,c5,c6,c7,zI gone,zI new,zI af,c11,vt]) 9 ⟨_,_,_,.inl hf,rfl⟩<|zD 3<|js 18 (decide (x.new≤new)) (fun h2=>?_) (fun h2=>?_)
  ·
   have my:=h2
   replace my:=of_decide_eq_true my
   refine jd 6 [0]<|jl (b:=f) (off:=0) (m:=13) (vs:=[c0,c1,c2,c3,c4,c5,c6,c7,zI gone,zI new,zI af,c11,vt]) 10 ⟨_,_,_,.inl hf,rfl⟩<|zD 5<|aE q0 (.bool (decide (x.af≤af))) [] [] [] (Sub.refl _) ⟨_,_,rfl,rfl,by simp_all[cP]<;>(intros;omega),rfl⟩
  have my:=h2
  replace my:=of_decide_eq_false my
  refine zD 12<|aE q0 (.bool false) [] [] [] (Sub.refl _) ⟨_,_,rfl,rfl,by simp_all[cP]<;>(intros;omega),rfl⟩
 have gx:=h1
 replace gx:=of_decide_eq_false gx
 refine zD 22<|aE q0 (.bool false) [] [] [] (Sub.refl _) ⟨_,_,rfl,rfl,by simp_all[cP]<;>(intros;omega),rfl⟩
theorem arO{f i:Int}{ro:Nat→Option Obj}(hi:0≤i∧i≤8):de zT 117 [.int .u8 f,zI i] ro (.bool (hasB f i)):=by
 refine bA au [] [] a8<|zD 8<|jsr (k:= .u8) (k':= .i64) (a:=f) (b:=i) 120 (by omega)<|zD 5<|aE q0 (.bool (decide ((S0 .u8 (aR .u8 f i) 1)=1))) [] [] [] (Sub.refl _) ⟨_,_,rfl,rfl,rfl,rfl⟩
theorem arx{p0 p1 p2 p3:Int}{ro:Nat→Option Obj}:de zT 131 [.agg ⟨[zI p0,zI p1,zI p2,zI p3]⟩] ro (zI (vz [p0,p1,p2,p3])):=by
 refine bA au [] [] a8<|zD 2<|jn fun b1=>jd 13 [0]<|dW [1,1,0,1,0,0] [] (fun(zz:Nat×Int)=>[(2,zI 0),(3,zI zz.2),(6,.agg ⟨[zI p0,zI p1,zI p2,zI p3]⟩),(7,zI (zz.1:Int))]) (fun(zz:Nat×Int)=>[]) (fun(zz:Nat×Int)=>zz.1≤4∧zz.2=vz ([p0,p1,p2,p3].take zz.1)∧(0≤zz.2∧zz.2≤zz.1)) (fun(zz:Nat×Int)=>4-zz.1) (⟨0,0⟩) ⟨by omega,rfl,by omega⟩ [] ?_
 rintro⟨k,n⟩ hI K1 bK rest
 dsimp only at hI
 refine zD 5<|zJ 8 ((k:Int) <4) (fun h1=>?_) fun h1=>?_
 ·
  refine zD 6 ?_
  obtain⟨x9,hx9⟩:=zG ([p0,p1,p2,p3]:List Int) k (show k <4 from by omega)
  refine jai (l:=[zI p0,zI p1,zI p2,zI p3]) (k:Int) 4 1 false (by omega) (v:= zI x9) (show nth _ (k*1)=_ by rw[Nat.mul_one];exact aN1 hx9) ?_
  refine zD 7<|zJ 11 (x9>0) (fun h2=>?_) fun h2=>?_
  ·
   refine zD 3<|ja (n+1) (by omega)<|zD 3<|ja ((k:Int)+1) (by omega)<|zD 2<|bO bK (⟨k+1,(n+1)⟩) ⟨by dsimp only;omega,by rw[Jo hx9,if_pos (by assumption),hI.2.1],by dsimp only;omega⟩ (by dsimp only;omega) [] (Sub.refl _)
  refine zD 3<|ja ((k:Int)+1) (by omega)<|zD 2<|bO bK (⟨k+1,n⟩) ⟨by dsimp only;omega,by rw[Jo hx9,if_neg (by assumption),hI.2.1,Int.add_zero],by dsimp only;omega⟩ (by dsimp only;omega) [] (Sub.refl _)
 refine zD 8<|aE q0 (zI n) [] [] [] (Sub.refl _) ⟨_,_,rfl,rfl,by rw[hI.2.1,show k=4 by omega];rfl,rfl⟩
theorem q6{xs:List α}{a:Option Addr}{o:Nat}(h:∀k,k <xs.length→a=some ⟨b,o,none⟩)(hn:a.isNone=true):xs=[]:=by
 cases xs with
 |nil=>rfl
 |cons x l=>rw[h 0 (by simp)] at hn;cases hn
theorem aqe{v:Value}{ro:Nat→Option Obj}(hl:bE ro v 1 pN xs)(hn:xs.length≤1000):eE zT 256 [v] ro [] (fun r Y=>∃L,aA r 1 9 pN xs L∧Y=L):=by
 obtain⟨fI,rM,rK,eX,rfl,tG,lG,mH⟩:=hl
 refine bA au [] [] a8<|zD 8<|jsn 137 (a:=fI) (l:=xs.length) (c:=eX)<|zD 1<|js 4 (fI.isNone) (fun h1=>?_) (fun h1=>?_)
 ·
  refine zD 6<|aE q0 (zS) [] [] [] (Sub.refl _) ⟨_,_,rfl,rfl,[],by rw[q6 lG (by assumption)];exact aA.nil _ _ _,rfl⟩
 refine zD 4<|jn fun b5=>zD 1<|kL (sz:=1) (ps:=[]) (qs:=xs) (enc:=pN) (w:= .slice fI xs.length eX) [0] [] [] (cJ (b:=b5) (T:=9)) (fun s he _=>⟨fI,rM,rK,eX,rfl,lG,fun i p hp=>(mH i p hp).ext he⟩) (fun p _=>ar rfl) (by simp<;>omega) (fun v7 L7 iG=>?_)
 rw[List.nil_append] at iG
 obtain⟨RM,RG,PY⟩:=iG.form
 subst PY
 refine zD 3<|aE q0 ((.slice RM (xs).length RG)) [] [0] L7 (Sub.refl _) ⟨_,_,rfl,rfl,_,iG,rfl⟩
theorem aOn{f:Nat}{c2 c3 c4:Value}{ro:Nat→Option Obj}(hx:bE ro c11 3 wA fs)(hf:ro f=some (.cells ⟨[c0,c1,c2,c3,c4,c5,c6,c7,zI gone,zI new,zI af,c11,vt]⟩ 128 (0,0)))(hn:fs.length≤7):de zT 51 [zP f] ro (.int .u8 (IntKind.u8.wrap (dv .u8 1 (fs.length:Int)-1))):=by
 obtain⟨qxa,qxb,qxo,qxc,rfl,qxk,qxh,qxl⟩:=hx
 refine bA au [] [] a8<|zD 10<|jl (b:=f) (off:=0) (m:=13) (vs:=[c0,c1,c2,c3,c4,c5,c6,c7,zI gone,zI new,zI af,.slice qxa fs.length qxc,vt]) 11 ⟨_,_,_,.inl hf,rfl⟩<|zD 1<|jsh (k:= .u8) (k':= .i64) (a:=1) (b:=(fs.length:Int)) 120 (by omega)<|zD 4<|aE q0 (.int .u8 (IntKind.u8.wrap ((dv .u8 1 (fs.length:Int))-1))) [] [] [] (Sub.refl _) ⟨_,_,rfl,rfl,rfl,rfl⟩
theorem yb{r:Value}{A B:Prop}(h:(r= .bool true∧A)∨(r= .bool false∧B)):∃c,r= .bool c∧(c=true→A)∧(c=false→B):=by
 rcases h with ⟨rfl,h⟩| ⟨rfl,h⟩
 ·exact⟨true,rfl,fun _=>h,nofun⟩
 exact⟨false,rfl,nofun,fun _=>h⟩
def uv(w f t:ByteArray)(i:Nat):ByteArray:=w.extract 0 (i:Int).toNat++t++w.extract ((i:Int)+(f.size:Int)).toNat w.size
def p6(w f t:ByteArray)(i:Nat):Option ByteArray:=if sE (w.extract i w.size) f=true∧1≤(uv w f t i).size∧(uv w f t i).size≤12 then some (uv w f t i) else none
def uQ(w f t:ByteArray)(k:Nat):List ByteArray:=(List.range k).filterMap (p6 w f t)
def C5(w f t:ByteArray):List ByteArray:=uQ w f t (w.size+1)
theorem BF(w f t:ByteArray)(k:Nat):uQ w f t (k+1)=uQ w f t k++(p6 w f t k).toList:=by
 rw[uQ,uQ,List.range_succ,List.filterMap_append]
 cases h:p6 w f t k<;>simp[h]
theorem abU(w f t:ByteArray){n:Nat}(h:k≤n):∃l,uQ w f t n=uQ w f t k++l:=by
 induction n with
 |zero=>exact⟨[],by rw[show k=0 by omega];simp⟩
 |succ n ih=>
  by_cases hk:k=n+1
  ·exact⟨[],by rw[hk];simp⟩
  obtain⟨l,hl⟩:=ih (by omega)
  exact⟨l++(p6 w f t n).toList,by rw[BF,hl,List.append_assoc]⟩
theorem Oe{w:ByteArray}{n:Nat}(hk:k <n)(h:p6 w f t k=some x):(uQ w f t n)[(uQ w f t k).length]?=some x∧(uQ w f t (k+1)).length=(uQ w f t k).length+1:=by
 obtain⟨l,hl⟩:=abU w f t (k:=k+1) (n:=n) hk
 rw[hl,BF,h]
 constructor
 ·rw[List.append_assoc,List.getElem?_append_right (Nat.le_refl _)];simp
 simp
theorem Vn{w:ByteArray}(h:p6 w f t k=none):(uQ w f t (k+1)).length=(uQ w f t k).length:=by
 rw[BF,h];simp
abbrev aoO(l:List ByteArray):(Nat→Option Obj)→Nat→List Value→Cells→Prop:=fun _ k vs LL=>∃x,l[k]?=some x∧vs=[.string x]∧LL=[]
theorem xz.ext{w:ByteArray}(h:xz w)(i j:Nat):xz (w.extract i j):=by
 intro b hb
 refine h b ?_
 have:(w.extract i j).data.toList=(w.data.extract i j).toList:=by simp[ByteArray.data_extract]
 rw[this,Array.toList_extract] at hb
 simp only[List.extract_eq_drop_take] at hb
 exact List.mem_of_mem_drop (List.mem_of_mem_take hb)
theorem xz.app{v w:ByteArray}(h:xz v)(k:xz w):xz (v++w):=by
 intro b hb
 have:(v++w).data.toList=v.data.toList++w.data.toList:=by simp[ByteArray.data_append]
 rw[this] at hb
 exact(List.mem_append.1 hb).elim (h b) (k b)
theorem I7{w:ByteArray}(hw:xz w)(ht:xz t):xz (uv w f t i):=((hw.ext _ _).app ht).app (hw.ext _ _)
theorem acg{a b:ByteArray}(h:sE a b=true):b.size≤a.size:=by
 unfold sE at h
 simp only[Bool.and_eq_true,decide_eq_true_eq] at h
 omega
def adj(w:ByteArray):Bool:=decide ((1:Int)≤w.size)&&decide ((w.size:Int)≤12)
theorem So{w:ByteArray}(h:sE (w.extract (k:Int).toNat w.size) f=false):p6 w f t k=none:=if_neg fun x=>by
 have h1:sE (w.extract k w.size) f=false:=h
 rw[h1] at x;cases x.1
theorem X6{w:ByteArray}(h:adj (uv w f t k)=false):p6 w f t k=none:=if_neg fun x=>by
 simp only[adj,Bool.and_eq_false_iff,decide_eq_false_iff_not] at h
 omega
theorem Sn{w:ByteArray}(h:sE (w.extract (k:Int).toNat w.size) f=true)(h2:adj (uv w f t k)=true):p6 w f t k=some (uv w f t k):=if_pos ⟨h,by
 simp only[adj,Bool.and_eq_true,decide_eq_true_eq] at h2
 omega⟩
theorem Sm{w:ByteArray}(h:w.size≤100∧f.size≤100∧t.size≤100):(uv w f t k).size≤1000:=by
 simp only[uv,ByteArray.size_append,ByteArray.size_extract];omega
theorem ajE{w:ByteArray}(hk:k≤w.size)(h:p6 w f t k=some (uv w f t k)):(uQ w f t k).length <(C5 w f t).length∧(C5 w f t)[(uQ w f t k).length]?=some (uv w f t k):=by
 have:=(Oe (n:=w.size+1) (by omega) h).1
 exact⟨(List.getElem?_eq_some_iff.1 this).1,this⟩
theorem Uc(w:ByteArray)(a b:Nat):(w.extract a b).size≤w.size:=by simp;omega
theorem agK(w:ByteArray)(i:Nat)(h:i≤w.size):(w.extract i w.size).size=w.size-i:=by simp
theorem akg{w:ByteArray}{ro:Nat→Option Obj}(g1:ro b1=some (.cells ⟨[.string w]⟩ 308 (0,0)))(g2:ro b2=some (.cells ⟨[.string f]⟩ 9 (0,0)))(g3:ro b3=some (.cells ⟨[.string t]⟩ 9 (0,0)))(hw:xz w)(ht:xz t)(hn:w.size≤100∧f.size≤100∧t.size≤100):ItX zT 298 [] [zP b1,zP b2,zP b3] ro [] (C5 w f t).length (aoO (C5 w f t)) (fun Z=>Z=[]):=by
 intro bl aB Inv Stop hs hy B hB
 replace g1:=hs _ _ g1
 replace g2:=hs _ _ g2
 replace g3:=hs _ _ g3
 refine bA au [.l B] [] a8<|zD 2<|jl (b:=b1) (off:=0) (m:=1) (vs:=[.string w]) 0 ⟨_,_,_,.inl g1,rfl⟩<|zD 1<|ja ((w.size:Int)+1) (by omega)<|zD 3<|dW [1,0,0] [] (fun(zz:Nat×Cells)=>[(0,(.func (.yield bl) #[] #[])),(1,zP b1),(2,zP b2),(3,zP b3),(9,zI ((w.size:Int)+1)),(10,zI (zz.1:Int))]) (fun(zz:Nat×Cells)=>[.l zz.2]) (fun(zz:Nat×Cells)=>zz.1≤w.size+1∧Inv (uQ w f t zz.1).length zz.2) (fun(zz:Nat×Cells)=>w.size+1-zz.1) (⟨0,B⟩) ⟨by dsimp only;omega,hB⟩ [0] ?_
 rintro⟨k,B⟩ hI K1 bK rest
 dsimp only at hI
 refine zD 5<|zJ 11 ((k:Int) <((w.size:Int)+1)) (fun h1=>?_) fun h1=>?_
 ·
  refine zD 11 ?_
  have oY:=Uc w (k:Int).toNat w.size
  refine zD 1<|jl (b:=b1) (off:=0) (m:=1) (vs:=[.string w]) 0 ⟨_,_,_,.inl g1,rfl⟩<|zD 1<|jtL (b:=w) (lo:=(k:Int)) (by omega)<|jl (b:=b2) (off:=0) (m:=1) (vs:=[.string f]) 0 ⟨_,_,_,.inl g2,rfl⟩<|jp (vs:=[.string (w.extract (k:Int).toNat w.size),.string f]) [] [] (fun aB hs hZ=>(Zm (by omega)))<|zD 2<|js 18 (!(sE (w.extract (k:Int).toNat w.size) f)) (fun h2=>?_) (fun h2=>?_)
  ·
   try simp only[zB] at h2
   refine zD 3<|ja ((k:Int)+1) (by omega)<|zD 2<|bO bK (⟨k+1,B⟩) ⟨by dsimp only;omega,by dsimp only;rw[Vn (So (by assumption))];exact hI.2⟩ (by dsimp only;omega) [0] (Sub.refl _)
  try simp only[zB] at h2
  refine zD 3 ?_
  have HP:=Uc w 0 (k:Int).toNat
  have he3:=Uc w ((k:Int)+(f.size:Int)).toNat w.size
  have he4:(w.extract 0 (k:Int).toNat++t).size=_:=ByteArray.size_append
  have hpr:sE (w.extract (k:Int).toNat w.size) f=true:=by assumption
  have Px:=acg hpr
  rw[agK _ _ (by omega)] at Px
  refine zD 1<|jl (b:=b1) (off:=0) (m:=1) (vs:=[.string w]) 0 ⟨_,_,_,.inl g1,rfl⟩<|zD 1<|jtH (b:=w) (hi:=(k:Int)) (by omega)<|jl (b:=b3) (off:=0) (m:=1) (vs:=[.string t]) 0 ⟨_,_,_,.inl g3,rfl⟩<|jsa (a:=(w.extract 0 (k:Int).toNat)) (b:=t) 308 (by omega)<|jl (b:=b1) (off:=0) (m:=1) (vs:=[.string w]) 0 ⟨_,_,_,.inl g1,rfl⟩<|zD 1<|jl (b:=b2) (off:=0) (m:=1) (vs:=[.string f]) 0 ⟨_,_,_,.inl g2,rfl⟩<|zD 1<|ja ((k:Int)+(f.size:Int)) (by omega)<|jtL (b:=w) (lo:=((k:Int)+(f.size:Int))) (by omega)<|jsa (a:=((w.extract 0 (k:Int).toNat)++t)) (b:=(w.extract ((k:Int)+(f.size:Int)).toNat w.size)) 308 (by omega)<|zD 5<|jp (vs:=[.string (((w.extract 0 (k:Int).toNat)++t)++(w.extract ((k:Int)+(f.size:Int)).toNat w.size)),zI 1,zI 12]) [] [] (fun aB hs hZ=>(O1 (I7 (i:=k) hw ht) (Sm hn)))<|zD 1<|js 33 (adj (uv w f t k)) (fun h3=>?_) (fun h3=>?_)
  ·
   have hry:=Sn (t:=t) hpr (by assumption)
   have Rh:=ajE (by omega) hry
   refine zD 2<|jyc [0] (hy (uQ w f t k).length _ [] B aB Rh.1 ⟨_,Rh.2,rfl,rfl⟩ hI.2 (Sub.refl _)) (Sub.refl _) ?_
   intro v4 Y4 hy4
   obtain⟨c4,rfl,hc4,hd4⟩:=yb hy4
   refine zD 3<|js 38 (!c4) (fun h5=>?_) (fun h5=>?_)
   ·
    try simp only[zB] at h5
    refine zD 2<|aE q0 (.tuple ⟨[]⟩) [] [0] Y4 (Sub.refl _) ⟨_,_,rfl,rfl,[],Y4,rfl,rfl,.inr (hd4 (by simp_all))⟩
   try simp only[zB] at h5
   refine zD 3<|ja ((k:Int)+1) (by omega)<|zD 2<|bO bK (⟨k+1,Y4⟩) ⟨by dsimp only;omega,by dsimp only;rw[(Oe (n:=k+1) (by omega) hry).2];exact hc4 (by assumption)⟩ (by dsimp only;omega) [0] (Sub.refl _)
  refine zD 9<|ja ((k:Int)+1) (by omega)<|zD 2<|bO bK (⟨k+1,B⟩) ⟨by dsimp only;omega,by dsimp only;rw[Vn (X6 (by assumption))];exact hI.2⟩ (by dsimp only;omega) [0] (Sub.refl _)
 refine zD 2<|aE q0 (.tuple ⟨[]⟩) [] [0] B (Sub.refl _) ⟨_,_,rfl,rfl,[],B,rfl,rfl,.inl (by have:=hI.2;rwa[show k=w.size+1 by omega] at this)⟩
def p9(rs:List cM):List (ByteArray×ByteArray):=rs.flatMap fun r=>[(r.f,r.t),(r.t,r.f)]
abbrev eP2(x:ByteArray×ByteArray):List Value:=[.string x.1,.string x.2]
def jD(w:ByteArray)(ps:List (ByteArray×ByteArray)):List ByteArray:=ps.flatMap fun p=>C5 w p.1 p.2
def sj(w:ByteArray)(rs:List cM):List ByteArray:=jD w (p9 rs)
theorem Jq:∀(rs:List cM),(p9 rs).length=2*rs.length
 | []=>rfl
 |r::rs=>by have:=Jq rs;simp only[p9,List.flatMap_cons,List.length_append,List.length_cons,List.length_nil] at this ⊢;omega
theorem OF:∀ {rs:List cM} {k q:Nat} {r:cM} {p:ByteArray×ByteArray},rs[k]?=some r→[(r.f,r.t),(r.t,r.f)][q]?=some p→(p9 rs)[2*k+q]?=some p
 | [],_,_,_,_,h,_=>by simp at h
 |r::rs,0,q,_,p,h,h2=>by
  simp only[List.getElem?_cons_zero,Option.some.injEq] at h;subst h
  simp only[p9,List.flatMap_cons,Nat.mul_zero,Nat.zero_add]
  rw[List.getElem?_append_left (by have:=(List.getElem?_eq_some_iff.1 h2).1;exact this)];exact h2
 |r::rs,k+1,q,_,p,h,h2=>by
  have:=OF (rs:=rs) (k:=k) (by simpa using h) h2
  simp only[p9,List.flatMap_cons]
  rw[List.getElem?_append_right (by simp;omega)]
  rw[show 2*(k+1)+q- [(r.f,r.t),(r.t,r.f)].length=2*k+q by simp;omega];exact this
theorem E6{w:ByteArray}{ps:List (ByteArray×ByteArray)}(h:ps[k]?=some p):jD w (ps.take (k+1))=jD w (ps.take k)++C5 w p.1 p.2:=by
 rw[jD,fx h,List.flatMap_append];simp[jD]
theorem ajk{w:ByteArray}{ps:List (ByteArray×ByteArray)}{j:Nat}(h:ps[k]?=some p) (hx:(C5 w p.1 p.2)[j]?=some x):(jD w (ps.take k)).length+j <(jD w ps).length∧(jD w ps)[(jD w (ps.take k)).length+j]?=some x:=by
 have e:jD w ps=jD w (ps.take (k+1))++jD w (ps.drop (k+1)):=by rw[jD,jD,jD,←List.flatMap_append,List.take_append_drop]
 have hj:=(List.getElem?_eq_some_iff.1 hx).1
 have:(jD w ps)[(jD w (ps.take k)).length+j]?=some x:=by
  rw[e,E6 h,List.append_assoc,List.getElem?_append_right (by omega),List.getElem?_append_left (by omega),show (jD w (ps.take k)).length+j-(jD w (ps.take k)).length=j by omega]
  exact hx
 exact⟨(List.getElem?_eq_some_iff.1 this).1,this⟩
theorem ajY{r:cM}{q:Nat}(h:rB r)(hp: [(r.f,r.t),(r.t,r.f)][q]?=some p):xz p.2∧(p.1.size≤100∧p.2.size≤100):=by
 have:=List.mem_of_getElem? hp
 have h1:=h.f1;have h2:=h.t1
 simp only[List.mem_cons,List.not_mem_nil,or_false] at this
 rcases this with rfl|rfl
 ·exact⟨h.tl,by dsimp only;omega,by dsimp only;omega⟩
 exact⟨h.fl,by dsimp only;omega,by dsimp only;omega⟩
theorem YA{w:ByteArray}{ro:Nat→Option Obj}:eE zT 281 [.string w,.string f,.string t] ro [] (fun r Y=>∃b3 b4 b5,r= .func (.func 298) ⟨[]⟩ ⟨[zP b3,zP b4,zP b5]⟩∧Y=[(b3,.cells ⟨[.string w]⟩ 308 (0,0)),(b4,.cells ⟨[.string f]⟩ 9 (0,0)),(b5,.cells ⟨[.string t]⟩ 9 (0,0))]):=by
 refine bA au [] [] a8<|zD 2<|jn fun b3=>jn fun b4=>jn fun b5=>zD 8<|aE q0 (.func (.func 298) ⟨[]⟩ ⟨[zP b3,zP b4,zP b5]⟩) [] [2,1,0] ((b3,.cells ⟨[.string w]⟩ 308 (0,0))::((b4,.cells ⟨[.string f]⟩ 9 (0,0))::[(b5,.cells ⟨[.string t]⟩ 9 (0,0))])) (Sub.refl _) ⟨_,_,rfl,rfl,_,_,_,rfl,rfl⟩
theorem aq3{w:ByteArray}{ro:Nat→Option Obj}(hl:bE ro vl 2 jI rs):eE zT 257 [.string w,vl] ro [] (fun r Y=>∃b2 b3,r= .func (.func 280) ⟨[]⟩ ⟨[zP b3,zP b2]⟩∧Y=[(b2,.cells ⟨[.string w]⟩ 308 (0,0)),(b3,.cells ⟨[vl]⟩ 36 (0,0))]):=by
 obtain⟨fI,rM,rK,eX,rfl,tG,lG,mH⟩:=hl
 refine bA au [] [] a8<|zD 2<|jn fun b2=>jn fun b3=>zD 8<|aE q0 (.func (.func 280) ⟨[]⟩ ⟨[zP b3,zP b2]⟩) [] [1,0] ((b2,.cells ⟨[.string w]⟩ 308 (0,0))::[(b3,.cells ⟨[.slice fI rs.length eX]⟩ 36 (0,0))]) (Sub.refl _) ⟨_,_,rfl,rfl,_,_,rfl,rfl⟩
theorem akf{w:ByteArray}{ro:Nat→Option Obj}(g1:ro b1=some (.cells ⟨[vl]⟩ 36 (0,0)))(hl:bE ro vl 2 jI rs)(hR:∀r∈rs,rB r)(g2:ro b2=some (.cells ⟨[.string w]⟩ 308 (0,0)))(hw:xz w)(hn:w.size≤100)(hq:rs.length≤100):ItX zT 280 [] [zP b1,zP b2] ro [] (sj w rs).length (aoO (sj w rs)) (fun Z=>Z=[]):=by
 intro bl aB Inv Stop hs hy B hB
 replace g1:=hs _ _ g1
 replace g2:=hs _ _ g2
 replace hl:=hl.up hs
 obtain⟨fI,rM,rK,eX,rfl,tG,lG,mH⟩:=hl
 refine akY au [.l B] [] a8<|zD 2<|jn fun b3=>jf [0] [(b3,.cells ⟨[(.func (.yield bl) #[] #[])]⟩ 374 (0,0))] fun yp bW iL=>zD 3<|jl (b:=b1) (off:=0) (m:=1) (vs:=[.slice fI rs.length eX]) 0 ⟨_,_,_,.inl (bW _ _ g1),rfl⟩<|zD 4<|pE<|aAf [1,1,0,0] [] (fun(zz:Nat×(List Nat)×Cells)=>[(2,zP b2),(3,zP b3),(9,.slice fI rs.length eX),(10,zI (rs.length:Int)),(11,zI (zz.1:Int))]) (fun(zz:Nat×(List Nat)×Cells)=>[.l (mk zz.2.1),.l zz.2.2]) (fun(zz:Nat×(List Nat)×Cells)=>(zz.2.1.map eg)) (fun(zz:Nat×(List Nat)×Cells)=>zz.1≤rs.length∧Inv (jD w ((p9 rs).take (2*zz.1))).length zz.2.2) (fun(zz:Nat×(List Nat)×Cells)=>rs.length-zz.1) (⟨0,[],B⟩) ⟨by dsimp only;omega,hB⟩ [0,1] ?_
 rintro⟨k,uh,B⟩ hI K1 bK rest
 dsimp only at hI
 refine zD 5<|zJ 12 ((k:Int) <(rs.length:Int)) (fun h4=>?_) fun h4=>?_
 ·
  refine zD 6 ?_
  obtain⟨x13,ale⟩:=zG rs k
  refine iK eX 2 lG ale<|jl 0 ((mH _ _ ale).ext (ub bW))<|jn fun b5=>jd 14 [0,0,0,0,0]<|jn fun dP=>zD 4<|aAf [1,1,0,0,1,1,0,0,1,1,0,0] [K1] (fun(zz:Nat×(List Nat)×Cells)=>[(2,zP b2),(3,zP b3),(9,.slice fI rs.length eX),(10,zI (rs.length:Int)),(11,zI (k:Int)),(25,.slice (some ⟨dP,0,none⟩) 2 2),(26,zI 2),(27,zI (zz.1:Int))]) (fun(zz:Nat×(List Nat)×Cells)=>[.l (mk zz.2.1),.l zz.2.2,.b dP (.cells ⟨[.string x13.f,.string x13.t,.string x13.t,.string x13.f]⟩ 375 (0,0))]) (fun(zz:Nat×(List Nat)×Cells)=>(zz.2.1.map eg)) (fun(zz:Nat×(List Nat)×Cells)=>zz.1≤2∧Inv (jD w ((p9 rs).take (2*k+zz.1))).length zz.2.2) (fun(zz:Nat×(List Nat)×Cells)=>2-zz.1) (⟨0,uh,B⟩) ⟨by dsimp only;omega,hI.2⟩ [2,3,0] ?_
  rintro⟨q,uh,B⟩ hJ K2 lg rest
  dsimp only at hJ
  refine zD 5<|zJ 28 ((q:Int) <2) (fun h5=>?_) fun h5=>?_
  ·
   refine zD 6 ?_
   obtain⟨DC,Ap⟩:=zG ([(x13.f,x13.t),(x13.t,x13.f)]:List _) q (show q <2 from by omega)
   refine iK (a:=(some ⟨dP,0,none⟩)) (b:=dP) (off:=0) 2 2 (fun _ _=>rfl) Ap<|oQ (m:=2) 0 [2] [(dP,.cells ⟨([(x13.f,x13.t),(x13.t,x13.f)].map eP2).flatten⟩ 375 (0,0))] (fun s _ hZ=>wW (hZ _ (.head _)) (by intro p hp;rfl) Ap) ?_
   refine jn fun b7=>jd 3 [0] ?_
   have hpx:=OF ale Ap
   have hpk:=ajY (hR _ (List.mem_of_getElem? ale)) Ap
   refine zD 1<|jl (b:=b2) (off:=0) (m:=1) (vs:=[.string w]) 0 ⟨_,_,_,.inl (bW _ _ g2),rfl⟩<|jd 4 [0,0]<|jc (vs:=[.string w,.string DC.1,.string DC.2]) [] (YA) ?_
   rintro _ _ ⟨anO,anN,anM,rfl,rfl⟩
   refine jg 0 [.b anO (.cells ⟨[.string w]⟩ 308 (0,0)),.b anN (.cells ⟨[.string DC.1]⟩ 9 (0,0)),.b anM (.cells ⟨[.string DC.2]⟩ 9 (0,0))]<|jf [0,1,2] ((anO,.cells ⟨[.string w]⟩ 308 (0,0))::((anN,.cells ⟨[.string DC.1]⟩ 9 (0,0))::[(anM,.cells ⟨[.string DC.2]⟩ 9 (0,0))])) fun ro8 yK hk7=>zD 2<|jrf [] (akg (hk7 _ (.head _)) (hk7 _ (.tail _ (.head _))) (hk7 _ (.tail _ (.tail _ (.head _)))) hw hpk.1 ⟨hn,hpk.2⟩) (by rintro _ _ _ _ ⟨_,_,rfl,_⟩;rfl) (fun(zz:Cells)=>[.l zz]) (fun kk=>(fun(zz:Cells)=>Inv ((jD w ((p9 rs).take (2*k+q))).length+kk) zz)) (fun jump=>(fun(zz:Cells)=>jump= .ret∧Stop zz)) B (show Inv (_+0) _ from hJ.2) [2] ?_ ?_ ?_
   ·
    rintro bl9 bd9 kk9 vs9 LL9 B ro9 hk9 att hL hs9
    obtain⟨x9,hx9,rfl,rfl⟩:=att
    have hu:=ajk hpx hx9
    refine zD 3<|jbg<|zD 3<|jl (b:=b3) (off:=0) (m:=1) (vs:=[(.func (.yield bl) #[] #[])]) 0 ⟨_,_,_,.inl (hs9 _ _ (yK _ _ (iL _ (.head _)))),rfl⟩<|zD 1<|jyc [1] (hy ((jD w ((p9 rs).take (2*k+q))).length+kk9) _ [] B ro9 hu.1 ⟨_,hu.2,rfl,rfl⟩ hL ((bW.trans yK).trans hs9)) (Sub.refl _) ?_
    intro v10 Y10 aO2
    obtain⟨c10,rfl,atQ,atL⟩:=yb aO2
    refine zD 2<|js 41 (!c10) (fun Mu=>?_) (fun Mu=>?_)
    ·
     try simp only[zB] at Mu
     refine zD 2<|jys Yg (Sub.refl _) .ret Y10 ⟨rfl,atL (by simp_all)⟩ [1,0]
    try simp only[zB] at Mu
    refine zD 2<|jyn Yg (Sub.refl _) Y10 (atQ (by simp_all)) [1,0]
   ·
    rintro bd9 B Z9 hL hZ9
    subst hZ9
    refine zD 1<|ja ((q:Int)+1) (by omega)<|zD 2<|jnD lg (⟨q+1,(bd9::uh),B⟩) ⟨by dsimp only;omega,by dsimp only;rw[←Nat.add_assoc,E6 hpx,List.length_append];exact hL⟩ (by dsimp only;omega) [[0,4],[2],[5]] yK
   rintro bd9 B Z9 jump hS hZ9
   obtain⟨rfl,hS⟩:=hS
   subst hZ9
   exact jrM qm0.a.w.w.a.m (.tuple ⟨[]⟩) [0,4] [] [1] B (bW.trans yK) ⟨[],B,rfl,rfl,.inr hS⟩
  refine zD 3<|ja ((k:Int)+1) (by omega)<|zD 2<|jnD bK (⟨k+1,uh,B⟩) ⟨by dsimp only;omega,by have:=hJ.2;dsimp only;rwa[show 2*(k+1)=2*k+q by omega]⟩ (by dsimp only;omega) [[0],[1]] (Sub.refl _)
 refine zD 2<|jrM qm0.a.w (.tuple ⟨[]⟩) [0] [] [0] B bW ⟨[],B,rfl,rfl,.inl (by have:=hI.2;rwa[show k=rs.length by omega,List.take_of_length_le (by rw[Jq];exact Nat.le_refl _)] at this)⟩
instance:LawfulBEq ByteArray where
 eq_of_beq:=fun h=>by rw[M0] at h;exact of_decide_eq_true h
 rfl:=fun {a}=>by rw[M0];exact decide_eq_true rfl
def dd(l:List ByteArray):List ByteArray:=l.foldl (fun a x=>if x∈a then a else a++[x]) []
theorem ML(l:List ByteArray)(x:ByteArray):dd (l++[x])=if x∈dd l then dd l else dd l++[x]:=by rw[dd,List.foldl_append];rfl
theorem au0(a:List ByteArray):∀b:List ByteArray,∃r,dd (a++b)=dd a++r:=by
 intro b
 induction b generalizing a with
 |nil=>exact⟨[],by simp⟩
 |cons x b ih=>
  obtain⟨r,hr⟩:=ih (a++[x])
  rw[show a++x::b=(a++[x])++b by simp,hr,ML]
  split
  ·exact⟨r,rfl⟩
  exact⟨x::r,by simp⟩
abbrev kvS:ByteArray→Value:=fun a=> .string a
def mF(m:List ByteArray):List (ByteArray×Value):=m.map fun x=>(x,.bool true)
theorem T5(k:ByteArray):∀(m:List ByteArray) (i:Nat),(sa k (mF m) i).map (·.2)=if k∈m then some (.bool true) else none
 | [],_=>rfl
 |x::m,i=>by
  simp only[mF,List.map_cons,sa]
  by_cases h:k=x
  ·simp[h]
  have:=T5 k m (i+1)
  simp only[mF] at this
  simp[h,this]
theorem azP{k:ByteArray}{m:List ByteArray}:Pb (.bool false) false k (mF m)= .bool (decide (k∈m)):=by
 simp only[Pb,lkM,T5]
 by_cases h:k∈m<;>simp[h]
theorem apN{k:ByteArray}{m:List ByteArray}(h:decide (k∈m)=false):mg k (.bool true) (mF m)=mF (m++[k]):=by
 have h:=of_decide_eq_false h
 have:=T5 k m 0
 rw[if_neg h] at this
 simp only[mg]
 cases hf:sa k (mF m) 0 with
 |none=>simp[mF]
 |some x=>rw[hf] at this;cases this
theorem ahc{l:List ByteArray}(hx:l[k]?=some x) (h:decide (x∈dd (l.take k))=true):dd (l.take (k+1))=dd (l.take k):=by
 rw[fx hx,ML,if_pos (of_decide_eq_true h)]
theorem Uj{l:List ByteArray}(hx:l[k]?=some x) (h:decide (x∈dd (l.take k))=false):dd (l.take (k+1))=dd (l.take k)++[x]:=by
 rw[fx hx,ML,if_neg (of_decide_eq_false h)]
theorem au1{l:List ByteArray}(hx:l[k]?=some x) (h:decide (x∈dd (l.take k))=false):∃r,dd l=dd (l.take k)++[x]++r:=by
 obtain⟨r,hr⟩:=au0 (l.take (k+1)) (l.drop (k+1))
 rw[List.take_append_drop,Uj hx h] at hr
 exact⟨r,hr⟩
def Nr(rs:List cM)(to:ByteArray):Nat→ByteArray→List ByteArray→List (List ByteArray)
 |0,w,b=>if cN w to=true then [b++[w]] else []
 |n+1,w,b=>(dd (sj w rs)).flatMap fun s=>Nr rs to n s (b++[w])
theorem MS{to:ByteArray}:∀ {n:Nat} {w:ByteArray} {b x:List ByteArray},x∈Nr rs to n w b→x.length=b.length+n+1
 |0,w,b,x,h=>by
  simp only[Nr] at h
  split at h
  ·rw[List.mem_singleton] at h;subst h;simp
  cases h
 |n+1,w,b,x,h=>by
  simp only[Nr,List.mem_flatMap] at h
  obtain⟨s,_,h2⟩:=h
  have:=MS h2
  simp at this;omega
theorem ajj{w:ByteArray}(hR:∀r∈rs,rB r)(hw:xz w)(h:x∈sj w rs):xz x∧x.size≤12:=by
 simp only[sj,jD,p9,List.mem_flatMap,C5,uQ,List.mem_filterMap,List.mem_range] at h
 obtain⟨p,⟨r,hr,hp⟩,i,_,hi⟩:=h
 have ht:xz p.2:=by
  simp only[List.mem_cons,List.not_mem_nil,or_false] at hp
  rcases hp with rfl|rfl
  ·exact(hR r hr).tl
  exact(hR r hr).fl
 simp only[p6] at hi
 split at hi
 ·rename_i hc
  cases hi
  exact⟨I7 hw ht,hc.2.2⟩
 cases hi
abbrev amh(L:List (List ByteArray)):(Nat→Option Obj)→Nat→List Value→Cells→Prop:=fun _ k vs LL=>∃x v,L[k]?=some x∧vs=[v]∧aA v 1 9 pN x LL
structure ah2(ro:Nat→Option Obj)(bl:Nat)(rs:List cM)(to:ByteArray)(many bm bt bw br bg:Nat)(vl:Value):Prop where
 m:ro bm=some (.cells ⟨[zI (many:Int)]⟩ 3 (0,0))
 t:ro bt=some (.cells ⟨[.string to]⟩ 308 (0,0))
 y:ro bw=some (.cells ⟨[.func (.yield bl) #[] #[]]⟩ 341 (0,0))
 r:ro br=some (.cells ⟨[vl]⟩ 36 (0,0))
 g:ro bg=some (.cells ⟨[.func (.func 255) ⟨[]⟩ ⟨[zP bm,zP bt,zP bw,zP br,zP bg]⟩]⟩ 342 (0,0))
 l:bE ro vl 2 jI rs
theorem ah2.up{ro aI:Nat→Option Obj}{to:ByteArray}(h:ah2 ro bl rs to many bm bt bw br bg vl)(hs:Sub ro aI):ah2 aI bl rs to many bm bt bw br bg vl:=
 ⟨hs _ _ h.m,hs _ _ h.t,hs _ _ h.y,hs _ _ h.r,hs _ _ h.g,h.l.up hs⟩
def apb(bl:Nat)(rs:List cM)(to:ByteArray)(many bm bt bw br bg:Nat)(vl:Value)(L:List (List ByteArray))(Inv:Nat→Cells→Prop)(Stop:Cells→Prop)(n:Nat):Prop:=
 ∀(ro:Nat→Option Obj) (w:ByteArray) (b:List ByteArray) (v:Value) (p:Nat) (B:Cells),ah2 ro bl rs to many bm bt bw br bg vl→bE ro v 1 pN b→b.length+n=many→xz w→w.size≤100→Part L p (Nr rs to n w b)→Inv p B→YOK zT bl ro L.length (amh L) Inv Stop→
  eE zT 255 [.string w,v,zP bm,zP bt,zP bw,zP br,zP bg] ro B (fun r Y=>∃c,r= .bool c∧(c=true→Inv (p+(Nr rs to n w b).length) Y)∧(c=false→Stop Y))
theorem aq5{n:Nat}{w:ByteArray}{b:List ByteArray}{v:Value}{p:Nat}{B:Cells}{to:ByteArray}{L:List (List ByteArray)}{Inv:Nat→Cells→Prop}{ro:Nat→Option Obj}(ih:∀m,m <n→apb bl rs to many bm bt bw br bg vl L Inv Stop m)(hR:∀r∈rs,rB r)(hq:rs.length≤100)(Wx:many≤100)(P1:ah2 ro bl rs to many bm bt bw br bg vl)(hb:bE ro v 1 pN b)(hbn:b.length+n=many)(hw:xz w)(rR:w.size≤100)(hP:Part L p (Nr rs to n w b))(hB:Inv p B)(hy:YOK zT bl ro L.length (amh L) Inv Stop):eE zT 255 [.string w,v,zP bm,zP bt,zP bw,zP br,zP bg] ro B (fun r Y=>∃c,r= .bool c∧(c=true→Inv (p+(Nr rs to n w b).length) Y)∧(c=false→Stop Y)):=by
 obtain⟨gm,gt,gy,gl,gg,hl⟩:=id P1
 obtain⟨fI,rM,rK,eX,rfl,tG,lG,mH⟩:=hl
 obtain⟨ayM,aMR,aMN,ayL,rfl,aMP,aMQ,aMO⟩:=hb
 refine akY au [.l B] [] a8<|zD 2<|jn fun b9=>zD 4<|jc (vs:=[.slice ayM b.length ayL]) [] (aqe (show bE _ _ _ _ _ from ⟨ayM,aMR,aMN,ayL,rfl,aMP,aMQ,aMO⟩) (by first|omega| (simp only[List.length_set,List.length_append,List.length_cons,List.length_nil];omega))) ?_
 rintro v14 L14 ⟨_,Tm,rfl⟩
 refine zD 1<|jn fun b16=>kL (sz:=1) (ps:=b) (qs:=[w]) (enc:=pN) (w:= .slice (some ⟨b16,0,none⟩) 1 1) [1] [0] [(b16,.cells ⟨([w].map pN).flatten⟩ 9 (0,0))] (Tm) (fun s _ hZ=>cb [w] (hZ _ (.head _)) (by intro p hp;rfl)) (fun p _=>ar rfl) (by simp only[List.length_cons,List.length_nil];omega) (fun v17 L17 Tk=>?_)
 obtain⟨zr,zp,PZ⟩:=Tk.form
 subst PZ
 refine jn fun lP=>jd 7 [0,0]<|jl (b:=bm) (off:=0) (m:=1) (vs:=[zI (many:Int)]) 0 ⟨_,_,_,.inl gm,rfl⟩<|zD 2<|zJ 21 (((b++[w]).length:Int)>(many:Int)) (fun h1=>?_) fun h1=>?_
 ·
  refine zD 2 ?_
  obtain rfl:n=0:=by simp only[List.length_append,List.length_cons,List.length_nil] at*;omega
  refine zD 2<|jl (b:=bt) (off:=0) (m:=1) (vs:=[.string to]) 0 ⟨_,_,_,.inl gt,rfl⟩<|zD 2<|js 25 (!(cN w to)) (fun h2=>?_) (fun h2=>?_)
  ·
   have my:=h2
   try simp only[zB] at my
   refine jd 7 [3]<|jrM qm0 (.bool true) [] [3] [4] B (Sub.refl _) ⟨_,rfl,(fun _=>by rw[show Nr rs to 0 w b=[] from if_neg (by simp_all)];exact hB),nofun⟩
  have my:=h2
  try simp only[zB] at my
  have afc:Nr rs to 0 w b=[b++[w]]:=if_pos (by simp_all)
  have WC:=Part.get (i:=0) (x:=b++[w]) hP (by rw[afc];rfl)
  refine jl (b:=bw) (off:=0) (m:=1) (vs:=[(.func (.yield bl) #[] #[])]) 0 ⟨_,_,_,.inl gy,rfl⟩<|jd 1 [0]<|jyc [1,4] (hy p [(.slice zr ((b++[w])).length zp)] L17 B ro WC.1 ⟨_,_,WC.2,rfl,Tk⟩ hB (Sub.refl _)) (Sub.refl _) ?_
  intro v28 Y28 aO0
  obtain⟨c28,rfl,aRH,aRu⟩:=yb aO0
  refine jd 4 [3]<|jrM qm0 (.bool c28) [] [3] [0] Y28 (Sub.refl _) ⟨_,rfl,(fun h=>by rw[afc];exact aRH h),aRu⟩
 refine zD 3 ?_
 obtain⟨m,rfl⟩:∃m,n=m+1:=⟨n-1,by simp only[List.length_append,List.length_cons,List.length_nil] at*;omega⟩
 refine zD 1<|jmk kvS fun r30 L30 aBs=>jn fun Ry=>jd 5 [0]<|jf [2,0,3] ((lP,.cells ⟨[(.slice zr ((b++[w])).length zp)]⟩ 137 (0,0))::((Ry,.cells ⟨[(.map (some r30))]⟩ 344 (0,0))::L17)) (fun ro5 HH hk4=>?_)
 have u9:=Tk.lR hk4.tail.tail
 replace P1:=P1.up HH
 replace hy:=hy.up HH
 refine zD 1<|jl (b:=br) (off:=0) (m:=1) (vs:=[.slice fI rs.length eX]) 0 ⟨_,_,_,.inl (HH _ _ gl),rfl⟩<|jc (vs:=[.string w,.slice fI rs.length eX]) [] (aq3 ((show bE _ _ _ _ _ from ⟨fI,rM,rK,eX,rfl,tG,lG,mH⟩).up HH)) ?_
 rintro _ _ ⟨anQ,anP,rfl,rfl⟩
 refine jg 0 [.b anQ (.cells ⟨[.string w]⟩ 308 (0,0)),.b anP (.cells ⟨[.slice fI rs.length eX]⟩ 36 (0,0))]<|jf [0,1] ((anQ,.cells ⟨[.string w]⟩ 308 (0,0))::[(anP,.cells ⟨[.slice fI rs.length eX]⟩ 36 (0,0))]) fun ro8 yK hk7=>zD 2<|jrf [] (akf (hk7 _ (.tail _ (.head _))) (P1.l.up yK) hR (hk7 _ (.head _)) hw rR hq) (by rintro _ _ _ _ ⟨_,_,rfl,_⟩;rfl) (fun(zz:Bool×Cells×Cells)=>[.b b9 (.cells ⟨[.bool zz.1]⟩ 4 (0,0)),.l zz.2.1,.l zz.2.2]) (fun kk=>(fun(zz:Bool×Cells×Cells)=>Inv (p+((dd ((sj w rs).take kk)).flatMap fun s=>Nr rs to m s (b++[w])).length) zz.2.2∧jV r30 kvS (mF (dd ((sj w rs).take kk))) zz.2.1)) (fun jump=>(fun(zz:Bool×Cells×Cells)=>jump= .ret∧(zz.1=false∧Stop zz.2.2))) (⟨false,L30,B⟩) ⟨hB,aBs⟩ [2,0,3] ?_ ?_ ?_
 ·
  rintro bl9 bd9 kk9 vs9 LL9 ⟨rv,Lm,B⟩ ro9 hk9 att hL hs9
  obtain⟨x9,hx9,rfl,rfl⟩:=att
  have hue:=ajj hR hw (List.mem_of_getElem? hx9)
  refine zD 3<|jbg<|zD 4<|jl (b:=Ry) (off:=0) (m:=1) (vs:=[(.map (some r30))]) 0 ⟨_,_,_,.inl (hs9 _ _ (yK _ _ (hk4 _ (.tail _ (.head _))))),rfl⟩<|zD 1<|jlu (kv:=kvS) (F:=(mF (dd ((sj w rs).take kk9)))) (r:=r30) (K:=308) x9 (.bool false) false [2] Lm (V4 (T:=308) (by kernel_rfl)) (fun s _ hZ=>hL.2.has hZ)<|jw 37 (.bool (decide (x9∈(dd ((sj w rs).take kk9))))) azP<|zD 1<|js 37 (decide (x9∈(dd ((sj w rs).take kk9)))) (fun HS=>?_) (fun HS=>?_)
  ·
   refine zD 2<|jyn Yg (Sub.refl _) ⟨rv,Lm,B⟩ ⟨by rw[ahc hx9 (by assumption)];exact hL.1,by rw[ahc hx9 (by assumption)];exact hL.2⟩ [0,1,2,3]
  have sP:decide (x9∈dd ((sj w rs).take kk9))=false:=by assumption
  obtain⟨rr,hrr⟩:=au1 hx9 sP
  have aA0:=Part.flat (G:=fun s=>Nr rs to m s (b++[w])) hP hrr
  refine zD 4<|jl (b:=Ry) (off:=0) (m:=1) (vs:=[(.map (some r30))]) 0 ⟨_,_,_,.inl (hs9 _ _ (yK _ _ (hk4 _ (.tail _ (.head _))))),rfl⟩<|zD 1<|jmu (kv:=kvS) (F:=(mF (dd ((sj w rs).take kk9)))) (r:=r30) (K:=308) 2 x9 (.bool true) (V4 (T:=308) (by kernel_rfl)) hL.2 fun aGL aeZ=>zD 3<|jl (b:=bg) (off:=0) (m:=1) (vs:=[.func (.func 255) ⟨[]⟩ ⟨[zP bm,zP bt,zP bw,zP br,zP bg]⟩]) 0 ⟨_,_,_,.inl (hs9 _ _ (yK _ _ (HH _ _ gg))),rfl⟩<|zD 1<|jl (b:=lP) (off:=0) (m:=1) (vs:=[(.slice zr ((b++[w])).length zp)]) 0 ⟨_,_,_,.inl (hs9 _ _ (yK _ _ (hk4 _ (.head _)))),rfl⟩<|jc (vs:=[.string x9,(.slice zr ((b++[w])).length zp),zP bm,zP bt,zP bw,zP br,zP bg]) [3] (ih m (by omega) _ _ _ _ (p+((dd ((sj w rs).take kk9)).flatMap fun s=>Nr rs to m s (b++[w])).length) _ (P1.up (yK.trans hs9)) (u9.up (yK.trans hs9)) (by simp only[List.length_append,List.length_cons,List.length_nil];omega) hue.1 (by omega) aA0 hL.1 (hy.up (yK.trans hs9))) ?_
  rintro _ Y43 ⟨c43,rfl,aRE,aRr⟩
  refine zD 2<|js 44 (!c43) (fun Bp=>?_) (fun Bp=>?_)
  ·
   try simp only[zB] at Bp
   refine jd 6 [3]<|jys Yg (Sub.refl _) .ret ⟨false,aGL,Y43⟩ ⟨rfl,rfl,aRr (by simp_all)⟩ [2,3,1,0]
  try simp only[zB] at Bp
  refine zD 2<|jyn Yg (Sub.refl _) ⟨rv,aGL,Y43⟩ ⟨by rw[Uj hx9 sP,List.flatMap_append,List.length_append,←Nat.add_assoc];have:=aRE (by simp_all);simpa using this,by rw[Uj hx9 sP,←apN sP];exact aeZ⟩ [2,3,1,0]
 ·
  rintro bd9 ⟨rv,Lm,B⟩ Z9 hL hZ9
  subst hZ9
  refine jd 5 [2]<|jrM qm0.a.a.m (.bool true) [0] [1] [3] B (HH.trans yK) ⟨_,rfl,(fun _=>by have:=hL.1;rwa[List.take_of_length_le (Nat.le_refl _)] at this),nofun⟩
 rintro bd9 ⟨rv,Lm,B⟩ Z9 jump hS hZ9
 obtain⟨rfl,hS⟩:=hS
 obtain⟨rfl,hS⟩:=hS
 subst hZ9
 exact jrM qm0.a.a.m (.bool false) [0] [1] [3] B (HH.trans yK) ⟨_,rfl,nofun,fun _=>hS⟩
theorem azI{to:ByteArray}{L:List (List ByteArray)}{Inv:Nat→Cells→Prop}(hR:∀r∈rs,rB r)(hq:rs.length≤100)(Wx:many≤100):∀n,apb bl rs to many bm bt bw br bg vl L Inv Stop n:=by
 intro n
 induction n using Nat.strongRecOn with
 |_ n ih=>exact fun ro w b v p B hc hb hbn hw rR hP hB hy=>aq5 ih hR hq Wx hc hb hbn hw rR hP hB hy
theorem YB{w to:ByteArray}{ro:Nat→Option Obj}(g1:ro b1=some (.cells ⟨[zI (many:Int)]⟩ 3 (0,0)))(g2:ro b2=some (.cells ⟨[.string to]⟩ 308 (0,0)))(g3:ro b3=some (.cells ⟨[vl]⟩ 36 (0,0)))(g4:ro b4=some (.cells ⟨[.string w]⟩ 308 (0,0)))(hl:bE ro vl 2 jI rs)(hR:∀r∈rs,rB r)(hw:xz w)(rR:w.size≤100)(hq:rs.length≤100)(Wx:many≤100):ItX zT 254 [] [zP b1,zP b2,zP b3,zP b4] ro [] (Nr rs to many w []).length (amh (Nr rs to many w [])) (fun Z=>Z=[]):=by
 intro bl aB Inv Stop hs hy B hB
 replace g1:=hs _ _ g1
 replace g2:=hs _ _ g2
 replace g3:=hs _ _ g3
 replace g4:=hs _ _ g4
 replace hl:=hl.up hs
 have hlr:=hl
 obtain⟨fI,rM,rK,eX,rfl,tG,lG,mH⟩:=hl
 refine bA au [.l B] [] a8<|zD 2<|jn fun b5=>zD 3<|jn fun b6=>jd 8 [0,0]<|jl (b:=b4) (off:=0) (m:=1) (vs:=[.string w]) 0 ⟨_,_,_,.inl g4,rfl⟩<|jf [1,0] ((b5,.cells ⟨[(.func (.yield bl) #[] #[])]⟩ 341 (0,0))::[(b6,.cells ⟨[.func (.func 255) ⟨[]⟩ ⟨[zP b1,zP b2,zP b5,zP b3,zP b6]⟩]⟩ 342 (0,0))]) fun yp bW iL=>jc (vs:=[.string w,zS,zP b1,zP b2,zP b5,zP b3,zP b6]) [0] (azI hR hq Wx many _ _ _ _ 0 _ ⟨bW _ _ g1,bW _ _ g2,iL _ (.head _),bW _ _ g3,iL _ (.tail _ (.head _)),hlr.up bW⟩ (bE.nil _ _ _ _ _) (by simp) hw rR ⟨[],[],by simp,rfl⟩ hB (YOK.up hy bW)) ?_
 rintro _ Y10 ⟨c10,rfl,atQ,atL⟩
 refine zD 1<|aE q0.a (.tuple ⟨[]⟩) [] [0] Y10 bW ⟨_,_,rfl,rfl,[],Y10,rfl,rfl,by cases c10 with|true=>exact .inl (by simpa using atQ rfl)|false=>exact .inr (atL rfl)⟩
theorem acV{w to:ByteArray}{many:Int}{ro:Nat→Option Obj}(hl:bE ro vl 2 jI rs):eE zT 237 [.string w,vl,.string to,zI many] ro [] (fun r Y=>∃b4 b5 b6 b7,r= .func (.func 254) ⟨[]⟩ ⟨[zP b7,zP b6,zP b5,zP b4]⟩∧Y=[(b4,.cells ⟨[.string w]⟩ 308 (0,0)),(b5,.cells ⟨[vl]⟩ 36 (0,0)),(b6,.cells ⟨[.string to]⟩ 308 (0,0)),(b7,.cells ⟨[zI many]⟩ 3 (0,0))]):=by
 obtain⟨fI,rM,rK,eX,rfl,tG,lG,mH⟩:=hl
 refine bA au [] [] a8<|zD 2<|jn fun b4=>jn fun b5=>jn fun b6=>jn fun b7=>zD 8<|aE q0 (.func (.func 254) ⟨[]⟩ ⟨[zP b7,zP b6,zP b5,zP b4]⟩) [] [3,2,1,0] ((b4,.cells ⟨[.string w]⟩ 308 (0,0))::((b5,.cells ⟨[.slice fI rs.length eX]⟩ 36 (0,0))::((b6,.cells ⟨[.string to]⟩ 308 (0,0))::[(b7,.cells ⟨[zI many]⟩ 3 (0,0))]))) (Sub.refl _) ⟨_,_,rfl,rfl,_,_,_,_,rfl,rfl⟩
theorem aq6{L:List (List ByteArray)}{ro:Nat→Option Obj}(hit:ItX zT 254 [] [zP b1,zP b2,zP b3,zP b4] ro [] L.length (amh L) (fun Z=>Z=[]))(hL:∀x∈L,x.length≤1000):eE zT 236 [.func (.func 254) ⟨[]⟩ ⟨[zP b1,zP b2,zP b3,zP b4]⟩,.func (.func 238) ⟨[]⟩ ⟨[]⟩] ro [] (fun r Y=>∃v,r= .tuple ⟨[v,.bool (decide (0 <L.length))]⟩∧∃ps,aA v 1 9 pN ps Y∧(0 <L.length→ps∈L)):=by
 refine akY au [] [] a8<|zD 2<|jn fun b3=>zD 2<|jf [0] [(b3,.cells ⟨[.func (.func 238) ⟨[]⟩ ⟨[]⟩]⟩ 333 (0,0))] fun yp bW iL=>zD 3<|jn fun b6=>zD 3<|jn fun b7=>jd 8 [0]<|pE<|jrf [] (hit.up bW) (by rintro _ _ _ _ ⟨_,_,_,rfl,_⟩;rfl) (fun(zz:Value×(List ByteArray)×Cells×Bool)=>[.b b6 (.cells ⟨[zz.1]⟩ 137 (0,0)),.b b7 (.cells ⟨[.bool zz.2.2.2]⟩ 4 (0,0)),.l zz.2.2.1]) (fun kk=>(fun(zz:Value×(List ByteArray)×Cells×Bool)=>aA zz.1 1 9 pN zz.2.1 zz.2.2.1∧zz.2.2.2=decide (0 <kk)∧(0 <kk→zz.2.1∈L)∧zz.2.1.length≤1000)) (fun jump=>(fun(zz:Value×(List ByteArray)×Cells×Bool)=>False)) (⟨zS,[],[],false⟩) ⟨aA.nil _ _ _,rfl,nofun,by simp⟩ [2,1,0] ?_ ?_ ?_
 ·
  rintro bl4 bd4 kk4 vs4 LL4 ⟨v,ps,Lb,sm⟩ ro4 hk4 atu hI ky
  obtain⟨x4,v4,hx4,rfl,ho4⟩:=atu
  have hxl:=hL _ (List.mem_of_getElem? hx4)
  have Px:=hI.2.2.2
  refine zD 3<|jbg<|jd 6 [2]<|js 13 (!sm) (fun h5=>?_) (fun h5=>?_)
  ·
   have Eg:=h5
   try simp only[zB] at Eg
   refine zD 10 ?_
   obtain⟨va6,vc6,he6⟩:=ho4.form
   subst he6
   refine jd 3 [1,2]<|jyn Yg (Sub.refl _) ⟨(.slice va6 (x4).length vc6),x4,LL4,true⟩ ⟨ho4,rfl,fun _=>List.mem_of_getElem? hx4,hxl⟩ [0,1,2,4]
  have Eg:=h5
  try simp only[zB] at Eg
  refine jl (b:=b3) (off:=0) (m:=1) (vs:=[.func (.func 238) ⟨[]⟩ ⟨[]⟩]) 0 ⟨_,_,_,.inl (ky _ _ (iL _ (.head _))),rfl⟩<|jd 2 [1]<|jp (vs:=[v4,v]) [4,3] (LL4++Lb) (fun aB hs hZ=>aMz (ho4.lR hZ.left) (hI.1.lR hZ.right) (by first|omega| (simp only[List.length_set,List.length_append,List.length_cons,List.length_nil];omega)) (by first|omega| (simp only[List.length_set,List.length_append,List.length_cons,List.length_nil];omega))) ?_
  refine zD 3<|zJ 19 ((MN x4 ps) <0) (fun h7=>?_) fun h7=>?_
  ·
   refine zD 3 ?_
   obtain⟨va8,vc8,he8⟩:=ho4.form
   subst he8
   refine jd 3 [1,2]<|jyn Yg (Sub.refl _) ⟨(.slice va8 (x4).length vc8),x4,LL4,true⟩ ⟨ho4,rfl,fun _=>List.mem_of_getElem? hx4,hxl⟩ [0,1,2,4]
  refine zD 2<|jyn Yg (Sub.refl _) ⟨v,ps,Lb,sm⟩ ⟨hI.1,by have:=hI.2.1;simp_all,fun _=>hI.2.2.1 (by have:=hI.2.1;simp_all),Px⟩ [0,1,2,3]
 ·
  rintro bd4 ⟨v,ps,Lb,sm⟩ Z4 hI hZ4
  subst hZ4
  refine jd 8 [2,3]<|jrM qm0.a.m (.tuple ⟨[v,.bool sm]⟩) [0] [] [3] Lb bW ⟨v,by rw[←hI.2.1],ps,hI.1,hI.2.2.1⟩
 rintro bd4 ⟨v,ps,Lb,sm⟩ Z4 jump hS hZ4
 exact hS.elim
abbrev eBy(x:Int):List Value:=[.int .u8 x]
theorem aFL:EF zT 303 (Extern.BytealgMakeNoZero.makeNoZero #[3] #[363]):=⟨Tryz.f303,Tryz.func303,by kernel_rfl,by kernel_rfl,by kernel_rfl,by kernel_rfl⟩
def apW:=(nn Tryz.typeInfo363 Tryz.underlying363 rfl rfl rfl rfl rfl rfl:TF zT 363 _ 1 24 _ false)
theorem acr{T:TypeId}:aA (.slice (some ⟨b,0,none⟩) 0 l.length) 1 T eBy ([]:List Int) [(b,.cells ⟨l⟩ T (0,0))]:= .inr ⟨b,l,l.length,rfl,rfl,by simp,by simp,by simp,by simp⟩
theorem aj0{v:Value}{T:TypeId}{c:Int}{L:Cells}(h:aA v 1 T eBy [c] L):∃b l cap,cap≠0∧v= .slice (some ⟨b,0,none⟩) 1 cap∧L=[(b,.cells ⟨.int .u8 c::l⟩ T (0,0))]:=by
 rcases h with ⟨_,h,_⟩| ⟨b,l,cap,h1,h2,h3,h4,_,h6⟩
 ·cases h
 simp only[List.length_cons,List.length_nil] at h1 h4 h6
 cases l with
 |nil=>simp at h3;omega
 |cons x l=>
  simp at h6;subst h6
  exact⟨b,l,cap,by omega,h1,h2⟩
def ZO(n:Int):ByteArray:=⟨#[n.toNat.toUInt8]⟩
theorem aFM:EF zT 302 Extern.AbiNoEscape.same:=⟨Tryz.f302,Tryz.func302,by kernel_rfl,by kernel_rfl,by kernel_rfl,by kernel_rfl⟩
theorem aGb{v:Value}{ro:Nat→Option Obj}:eE zT 291 [zP b] ro [(b,.cells ⟨[.pointer none,v]⟩ 365 (0,0))] (fun r Y=>Y=[(b,.cells ⟨[zP b,v]⟩ 365 (0,0))]):=by
 refine bA au [.b b (.cells ⟨[.pointer none,v]⟩ 365 (0,0))] [] a8<|jd 12 [0]<|jmo [0] [0,0] [(b,.cells ⟨[.pointer none,v]⟩ 365 (0,0))] (zP b)<|jg 0 [.b b (.cells ⟨[.pointer none,v]⟩ 365 (0,0))]<|aOu (v:= zP b) aFM<|jmo [0] [0,0] [(b,.cells ⟨[.pointer none,v]⟩ 365 (0,0))] (zP b)<|jg 0 [.b b (.cells ⟨[.pointer none,v]⟩ 365 (0,0))]<|jd 4 [0]<|aE q0 (.tuple ⟨[]⟩) [] [0] [(b,.cells ⟨[zP b,v]⟩ 365 (0,0))] (Sub.refl _) ⟨_,_,rfl,rfl,rfl⟩
theorem aGa{v:Value}{ro:Nat→Option Obj}:eE zT 291 [zP b] ro [(b,.cells ⟨[zP b,v]⟩ 365 (0,0))] (fun r Y=>Y=[(b,.cells ⟨[zP b,v]⟩ 365 (0,0))]):=by
 refine bA au [.b b (.cells ⟨[zP b,v]⟩ 365 (0,0))] [] a8<|jd 16 [0,0]<|jpn (b:=b)<|jg 0 []<|zD 3<|aE q0 (.tuple ⟨[]⟩) [] [0] [(b,.cells ⟨[zP b,v]⟩ 365 (0,0))] (Sub.refl _) ⟨_,_,rfl,rfl,rfl⟩
theorem aF4{ro:Nat→Option Obj}:eE zT 292 [zP b,zI 1] ro [(b,.cells ⟨[zP b,zS]⟩ 365 (0,0))] (fun r Y=>∃v L,aA v 1 5 eBy ([]:List Int) L∧Y=(b,.cells ⟨[zP b,v]⟩ 365 (0,0))::L):=by
 refine bA au [.b b (.cells ⟨[zP b,zS]⟩ 365 (0,0))] [] a8<|jd 6 [0]<|jcp (c:=0)<|jd 8 [0]<|aO 8 fun Dz DJ Bn=>jnz (n:=1) aFL rfl apW (by omega) fun bb lz hlz=>jg 0 [.b bb (.cells ⟨lz⟩ 5 (0,0))]<|bI Bn [1]<|js0 (a:=⟨bb,0,none⟩) (l:=1) (c:=lz.length)<|jd 9 [1]<|jmo [] [] [] (zI 0)<|jg 0 []<|jd 8 [1]<|aE q0 (.tuple ⟨[]⟩) [] [1,0] ((b,.cells ⟨[zP b,(.slice (some ⟨bb,0,none⟩) 0 lz.length)]⟩ 365 (0,0))::[(bb,.cells ⟨lz⟩ 5 (0,0))]) (Sub.refl _) ⟨_,_,rfl,rfl,_,_,acr,rfl⟩
theorem aF9{ro:Nat→Option Obj}:eE zT 274 [zP b,zI 1] ro [(b,.cells ⟨[.pointer none,zS]⟩ 365 (0,0))] (fun r Y=>∃v L,aA v 1 5 eBy ([]:List Int) L∧Y=(b,.cells ⟨[zP b,v]⟩ 365 (0,0))::L):=by
 refine bA au [.b b (.cells ⟨[.pointer none,zS]⟩ 365 (0,0))] [] a8<|zD 3<|jc (vs:=[zP b]) [0] (aGb (v:= zS)) ?_
 rintro _ _ rfl
 refine jg 0 [.b b (.cells ⟨[zP b,zS]⟩ 365 (0,0))]<|jd 15 [0]<|jcp (c:=0)<|jd 13 [0]<|jc (vs:=[zP b,zI 1]) [0] (aF4) ?_
 rintro _ _ ⟨v,L,hv,rfl⟩
 refine jg 0 [.b b (.cells ⟨[zP b,v]⟩ 365 (0,0)),.l L]<|zD 1<|aE q0 (.tuple ⟨[]⟩) [] [0,1] ((b,.cells ⟨[zP b,v]⟩ 365 (0,0))::L) (Sub.refl _) ⟨_,_,rfl,rfl,v,L,hv,rfl⟩
theorem aGc{v:Value}{L:Cells}{c:Int}{ro:Nat→Option Obj}(ho:aA v 1 5 eBy ([]:List Int) L):eE zT 276 [zP b,.int .u8 c] ro ((b,.cells ⟨[zP b,v]⟩ 365 (0,0))::L) (fun r Y=>∃v' L',aA v' 1 5 eBy [c] L'∧Y=(b,.cells ⟨[zP b,v']⟩ 365 (0,0))::L'):=by
 refine bA au [.b b (.cells ⟨[zP b,v]⟩ 365 (0,0)),.l L] [] a8<|zD 7<|jc (vs:=[zP b]) [0] (aGa (v:=v)) ?_
 rintro _ _ rfl
 refine jg 0 [.b b (.cells ⟨[zP b,v]⟩ 365 (0,0))]<|jd 9 [0]<|jn fun zi=>kL (sz:=1) (ps:=[]) (qs:=[c]) (enc:=eBy) (w:= .slice (some ⟨zi,0,none⟩) 1 1) [2] [0] [(zi,.cells ⟨([c].map eBy).flatten⟩ 5 (0,0))] (ho) (fun s _ hZ=>cb [c] (hZ _ (.head _)) (by intro p hp;rfl)) (fun p _=>ar rfl) (by simp) (fun v14 L14 tX=>?_)
 rw[List.nil_append] at tX
 obtain⟨KD,H3,xK⟩:=tX.form
 subst xK
 refine jd 9 [2]<|aE q0 (.nilIface) [] [2,0] ((b,.cells ⟨[zP b,(.slice KD ([c]).length H3)]⟩ 365 (0,0))::L14) (Sub.refl _) ⟨_,_,rfl,rfl,_,_,tX,rfl⟩
theorem aUn{bb cap:Nat}{c:Int}{ro:Nat→Option Obj}(oE:cap≠0):eE zT 277 [zP b] ro [(b,.cells ⟨[zP b,.slice (some ⟨bb,0,none⟩) 1 cap]⟩ 365 (0,0)),(bb,.cells ⟨.int .u8 c::l⟩ 5 (0,0))] (fun r Y=>r= .string (ZO c)):=by
 refine bA au [.b b (.cells ⟨[zP b,.slice (some ⟨bb,0,none⟩) 1 cap]⟩ 365 (0,0)),.b bb (.cells ⟨.int .u8 c::l⟩ 5 (0,0))] [] a8<|jd 15 [0,0]<|aO 4 fun Dz DJ Bn=>jsd (a:=⟨bb,0,none⟩) (l:=1) oE<|jg 0 []<|bI Bn [0,1]<|aO 10 fun Dy DI Ck=>jus (b:=bb) (E:=5) [1] c l fun L9=>jA Ck [[1]]<|zD 3<|aE q0 (.string (ZO c)) [] [] [] (Sub.refl _) ⟨_,_,rfl,rfl,rfl⟩
def tN(u:UInt8):ByteArray:=⟨#[u]⟩
theorem amf{u:UInt8}(h:u.toNat <128):Value.string (Utf8.encode (u.toNat:Int))= .string (tN u):=by
 have hv:Utf8.valid (u.toNat:Int)=true:=by simp only[Utf8.valid];simp;omega
 simp only[Utf8.encode,hv,if_true,Int.toNat_natCast,if_pos (show u.toNat <0x80 from h),tN]
 simp
theorem aFp{u:UInt8}{ro:Nat→Option Obj}(hu:(97≤u.toNat∧u.toNat≤122)):de zT 253 [.string (tN u)] ro (.string (tN u)):=by
 have uU:(tN u).size=1:=rfl
 refine bA au [] [] a8<|zD 15<|dW [1,1,0,1,0,0] [] (fun(zz:Nat×Bool)=>[(0,.string (tN u)),(2,.string (bs [])),(3,.bool true),(4,.bool zz.2),(5,zI (zz.1:Int))]) (fun(zz:Nat×Bool)=>[]) (fun(zz:Nat×Bool)=>(zz.1=0∧zz.2=false)∨(zz.1=1∧zz.2=false)) (fun(zz:Nat×Bool)=>1-zz.1) (⟨0,false⟩) (.inl ⟨rfl,rfl⟩) [] ?_
 rintro⟨i,q⟩ hI K1 bK rest
 dsimp only at hI
 refine zD 8<|zJ 14 ((i:Int) <((tN u).size:Int)) (fun h1=>?_) fun h1=>?_
 ·
  refine zD 5 ?_
  obtain⟨hi0,Wn⟩:i=0∧q=false:=by rcases hI with h|h;exact h;omega
  refine jw 5 (zI 0) (show Value.int .i64 (i:Int)= zI 0 by rw[hi0];rfl) ?_
  refine jw 4 (.bool false) (show Value.bool q= .bool false by rw[Wn])<|zD 12<|zJ 21 ((u.toNat:Int)≥128) (fun h2=>?_) fun h2=>?_
  ·
   exfalso;omega
  refine zD 8<|js 26 (decide (65≤(u.toNat:Int))) (fun h3=>?_) (fun h3=>?_)
  ·
   have v9:=h3
   replace v9:=of_decide_eq_true v9
   refine zD 11<|bO bK (⟨1,decide ((u.toNat:Int)≤90)⟩) (.inr ⟨rfl,decide_eq_false (by omega)⟩) (by dsimp only;omega) [] (Sub.refl _)
  have v9:=h3
  replace v9:=of_decide_eq_false v9
  exfalso;omega
 refine zD 4 ?_
 obtain⟨hi1,hq1⟩:i=1∧q=false:=by rcases hI with h|h;omega;exact h
 refine jw 4 (.bool false) (show Value.bool q= .bool false by rw[hq1])<|zD 17<|aE q0 (.string (tN u)) [] [] [] (Sub.refl _) ⟨_,_,rfl,rfl,rfl,rfl⟩
theorem aFo{u:UInt8}{ro:Nat→Option Obj}(hu:(65≤u.toNat∧u.toNat≤90)):de zT 253 [.string (tN u)] ro (.string (ZO (IntKind.u8.wrap ((u.toNat:Int)+32)))):=by
 have uU:(tN u).size=1:=rfl
 refine bA au [] [] a8<|zD 15<|dW [1,1,0,1,0,0] [] (fun(zz:Nat×Bool)=>[(0,.string (tN u)),(2,.string (bs [])),(3,.bool true),(4,.bool zz.2),(5,zI (zz.1:Int))]) (fun(zz:Nat×Bool)=>[]) (fun(zz:Nat×Bool)=>(zz.1=0∧zz.2=false)∨(zz.1=1∧zz.2=true)) (fun(zz:Nat×Bool)=>1-zz.1) (⟨0,false⟩) (.inl ⟨rfl,rfl⟩) [] ?_
 rintro⟨i,q⟩ hI K1 bK rest
 dsimp only at hI
 refine zD 8<|zJ 14 ((i:Int) <((tN u).size:Int)) (fun h1=>?_) fun h1=>?_
 ·
  refine zD 5 ?_
  obtain⟨hi0,Wn⟩:i=0∧q=false:=by rcases hI with h|h;exact h;omega
  refine jw 5 (zI 0) (show Value.int .i64 (i:Int)= zI 0 by rw[hi0];rfl) ?_
  refine jw 4 (.bool false) (show Value.bool q= .bool false by rw[Wn])<|zD 12<|zJ 21 ((u.toNat:Int)≥128) (fun h2=>?_) fun h2=>?_
  ·
   exfalso;omega
  refine zD 8<|js 26 (decide (65≤(u.toNat:Int))) (fun h3=>?_) (fun h3=>?_)
  ·
   have v9:=h3
   replace v9:=of_decide_eq_true v9
   refine zD 11<|bO bK (⟨1,decide ((u.toNat:Int)≤90)⟩) (.inr ⟨rfl,decide_eq_true (by omega)⟩) (by dsimp only;omega) [] (Sub.refl _)
  have v9:=h3
  replace v9:=of_decide_eq_false v9
  exfalso;omega
 refine zD 4 ?_
 obtain⟨hi1,hq1⟩:i=1∧q=true:=by rcases hI with h|h;omega;exact h
 refine jw 4 (.bool true) (show Value.bool q= .bool true by rw[hq1])<|zD 14<|jn fun b7=>zD 9<|jc (vs:=[zP b7,zI 1]) [0] (aF9) ?_
 rintro _ _ ⟨v,L,hv,rfl⟩
 refine jg 0 [.b b7 (.cells ⟨[zP b7,v]⟩ 365 (0,0)),.l L]<|zD 7<|dW [1,1,1,0,1,0,1,1,1,1,0,1,0,0] [] (fun(zz:Nat×Int×Value×Cells×(List Int))=>[(0,.string (tN u)),(2,.string (bs [])),(7,zP b7),(8,zI zz.2.1),(9,zI (zz.1:Int))]) (fun(zz:Nat×Int×Value×Cells×(List Int))=>[.b b7 (.cells ⟨[zP b7,zz.2.2.1]⟩ 365 (0,0)),.l zz.2.2.2.1]) (fun(zz:Nat×Int×Value×Cells×(List Int))=>aA zz.2.2.1 1 5 eBy zz.2.2.2.2 zz.2.2.2.1∧((zz.1=0∧zz.2.1=0∧zz.2.2.2.2=[])∨(zz.1=1∧zz.2.1=1∧zz.2.2.2.2=[(IntKind.u8.wrap ((u.toNat:Int)+32))]))) (fun(zz:Nat×Int×Value×Cells×(List Int))=>1-zz.1) (⟨0,0,v,L,[]⟩) ⟨hv,.inl ⟨rfl,rfl,rfl⟩⟩ [0,1] ?_
 rintro⟨j,p,v,L,xs⟩ hJ K2 lg rest
 dsimp only at hJ
 refine zD 8<|zJ 41 ((j:Int) <((tN u).size:Int)) (fun h4=>?_) fun h4=>?_
 ·
  refine zD 5 ?_
  obtain⟨hj0,hp0,Gk⟩:j=0∧p=0∧xs=[]:=by rcases hJ.2 with h|h;exact h;omega
  refine jw 9 (zI 0) (show Value.int .i64 (j:Int)= zI 0 by rw[hj0];rfl) ?_
  refine jw 8 (zI 0) (show Value.int .i64 p= zI 0 by rw[hp0])<|zD 11<|js 49 (decide (65≤(u.toNat:Int))) (fun h5=>?_) (fun h5=>?_)
  ·
   have Eg:=h5
   replace Eg:=of_decide_eq_true Eg
   refine zD 4<|zJ 52 ((u.toNat:Int)≤90) (fun h6=>?_) fun h6=>?_
   ·
    refine zD 19<|jc (vs:=[zP b7,.int .u8 (IntKind.u8.wrap ((u.toNat:Int)+32))]) [0,1] (aGc (by have:=hJ.1;rwa[Gk] at this)) ?_
    rintro _ _ ⟨v2,L2,HI,rfl⟩
    refine jg 0 [.b b7 (.cells ⟨[zP b7,v2]⟩ 365 (0,0)),.l L2]<|zD 11<|bO lg (⟨1,1,v2,L2,[(IntKind.u8.wrap ((u.toNat:Int)+32))]⟩) ⟨HI,.inr ⟨rfl,rfl,rfl⟩⟩ (by dsimp only;omega) [0,1] (Sub.refl _)
   exfalso;omega
  have Eg:=h5
  replace Eg:=of_decide_eq_false Eg
  exfalso;omega
 refine zD 4 ?_
 obtain⟨hj1,hp1,hx1⟩:j=1∧p=1∧xs=[(IntKind.u8.wrap ((u.toNat:Int)+32))]:=by rcases hJ.2 with h|h;omega;exact h
 refine jw 8 (zI 1) (show Value.int .i64 p= zI 1 by rw[hp1])<|zD 9 ?_
 obtain⟨bb,lz,cap,oE,rfl,rfl⟩:=aj0 (by have:=hJ.1;rwa[hx1] at this)
 refine zD 1<|jc (vs:=[zP b7]) [0,1] (aUn (bb:=bb) (l:=lz) (c:=(IntKind.u8.wrap ((u.toNat:Int)+32))) oE) ?_
 rintro _ Yz rfl
 refine zD 3<|aE q0 (.string (ZO (IntKind.u8.wrap ((u.toNat:Int)+32)))) [] [] [] (Sub.refl _) ⟨_,_,rfl,rfl,rfl,rfl⟩
def ade(u:UInt8):ByteArray:=if u.toNat <97 then ZO (IntKind.u8.wrap ((u.toNat:Int)+32)) else tN u
theorem aTK{u:UInt8}{ro:Nat→Option Obj}(h:F8 u=true∨FK u=true):de zT 253 [.string (tN u)] ro (.string (ade u)):=by
 unfold ade
 rcases h with h|h
 ·simp only[F8,Bool.and_eq_true,Nat.ble_eq] at h
  rw[if_neg (by omega)]
  exact aFp (by omega)
 simp only[FK,Bool.and_eq_true,Nat.ble_eq] at h
 rw[if_pos (by omega)]
 exact aFo (by omega)
end Go.L
