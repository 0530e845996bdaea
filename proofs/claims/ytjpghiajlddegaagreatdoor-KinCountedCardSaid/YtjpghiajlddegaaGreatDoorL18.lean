/- Part 18 of the proof: a program logic, contracts, a theorem on goroutines. -/
import Derived.Test.YtjpghiajlddegaaGreatDoorL17
set_option maxRecDepth 100000
set_option linter.all false
namespace Go.L
open Go Go.Conc Go.Proofs
variable {ways:List (List aL)} {aK:Nat→Option Obj} {Stop:Cells→Prop} {b b1 ck fc bl b2 b3 Hh ck0 r1 en ec:Nat} {vS vT:Value} {seen:List Nat} {Z B LE:Cells} {α:Type}
def as4(S:List (List ah))(c:aL):List (aj×aj):=
 if c.k=1 then ZI c.st (S[c.st.toNat]?.getD []) else if c.k=2 then H9 c.st (S[c.st.toNat]?.getD []) else IQ c.st c.ot (S[c.st.toNat]?.getD []) (q8 (S[c.ot.toNat]?.getD []))
def ya(S:List (List ah))(c:aL)(x:aj):aj:=gU (as4 S c) x
theorem pw{l:List α}(h:l.length=2):∃a b,l=[a,b]:=by
 match l,h with
 | [a,b],_=>exact⟨a,b,rfl⟩
theorem O0{ro:Nat→Option Obj}:dz zT 201 [] ro (.agg ⟨[.nilFunc,.func (.func 222) ⟨[]⟩ ⟨[]⟩,.func (.func 223) ⟨[]⟩ ⟨[]⟩,.func (.func 224) ⟨[]⟩ ⟨[]⟩,.func (.func 225) ⟨[]⟩ ⟨[]⟩,.func (.func 226) ⟨[]⟩ ⟨[]⟩,.func (.func 227) ⟨[]⟩ ⟨[]⟩,.func (.func 228) ⟨[]⟩ ⟨[]⟩]⟩):=by
 refine bA au [] [] bn<|zD 2<|jn fun b0=>jd 7 [0]<|aE q0 (.agg ⟨[.nilFunc,.func (.func 222) ⟨[]⟩ ⟨[]⟩,.func (.func 223) ⟨[]⟩ ⟨[]⟩,.func (.func 224) ⟨[]⟩ ⟨[]⟩,.func (.func 225) ⟨[]⟩ ⟨[]⟩,.func (.func 226) ⟨[]⟩ ⟨[]⟩,.func (.func 227) ⟨[]⟩ ⟨[]⟩,.func (.func 228) ⟨[]⟩ ⟨[]⟩]⟩) [0] [] [] (Sub.refl _) ⟨_,_,rfl,rfl,rfl,rfl⟩
theorem aDD{v:Value}{S:List (List ah)}{ro:Nat→Option Obj}(hS:cL ro v S)(hO:eP S):eo zT 168 [.agg ⟨[v]⟩,.agg ⟨[zI 1,zI 0,zI 0,zI 0,zI 0,zI 0,zI 0]⟩] ro [] (fun r Y=>∃rm F LM Z,r= .tuple ⟨[.map (some rm),zI 0]⟩∧Y=LM++Z∧jH rm ox F LM∧F.map (·.1)=bx S∧MV Z F (ya S ⟨1,0,0,0,0,0,0⟩)):=by
 obtain⟨p,q,rfl⟩:=pw hO.two
 have xB:=hS
 obtain⟨ws,ht,cX⟩:=hS
 obtain⟨w1,w2,rfl⟩:=pw (cX.len.trans hO.two)
 obtain⟨eT,AM,AJ,dY,rfl,AK,sS,sR⟩:=ht
 refine bA au [] [] bn<|zD 2<|jn fun b2=>jn fun b3=>jd 8 [0]<|jp (vs:=[zI 1,zI 1,zI 7]) [] [] (fun aA hs hZ=>z0)<|jd 18 [1,0]<|jp (vs:=[zI 0,zI 0,zI 1]) [] [] (fun aA hs hZ=>z0)<|jd 70 [0,0,0,0,0,0]<|jne Fa (vK 0 0 0 0)<|zD 3<|js 73 (!(0==0&&(0==0&&true))) (fun h1=>?_) (fun h1=>?_)
 ·
  have fS:=h1
  try simp only[zB] at fS
  exact absurd fS (by decide)
 have fS:=h1
 try simp only[zB] at fS
 refine jd 6 [0]<|jne Fa (vK 0 0 0 0)<|zD 3<|js 82 (!(0==0&&(0==0&&true))) (fun h2=>?_) (fun h2=>?_)
 ·
  exact absurd h2 (by decide)
 refine jd 5 [1]<|jc (vs:=[.agg ⟨[.slice eT 2 dY]⟩]) [] (I9 (xB) hO) ?_
 rintro _ _ ⟨rm,F,LM,Z,rfl,rfl,hmM,hkM,hMM⟩
 refine jg 0 [.l LM,.l Z]<|jd 10 [2,3,2]<|jp [] [] (fun aA hs hZ=>O0)<|zD 1<|aN 7 fun CN CZ AQ=>jc (vs:=[.agg ⟨[.slice eT 2 dY]⟩,.agg ⟨[zI 1,zI 0,zI 0,zI 0,zI 0,zI 0,zI 0]⟩,(.map (some rm))]) [0,1] (Vx (s:=0) xB hO rfl hmM hkM hMM) ?_
 rintro _ _ ⟨F2,Mb,Z2,rfl,rfl,D5,iT,hM2⟩
 refine jg 0 [.l Mb,.l Z2]<|iS AQ [[2]]<|zD 16<|aE q0 (.tuple ⟨[(.map (some rm)),zI 0]⟩) [] [0,1] (Mb++Z2) (Sub.refl _) ⟨_,_,rfl,rfl,rm,F2,Mb,Z2,rfl,rfl,D5,iT,hM2⟩
theorem aDC{v:Value}{S:List (List ah)}{ro:Nat→Option Obj}(hS:cL ro v S)(hO:eP S):eo zT 168 [.agg ⟨[v]⟩,.agg ⟨[zI 2,zI 0,zI 0,zI 0,zI 0,zI 0,zI 0]⟩] ro [] (fun r Y=>∃rm F LM Z,r= .tuple ⟨[.map (some rm),zI 0]⟩∧Y=LM++Z∧jH rm ox F LM∧F.map (·.1)=bx S∧MV Z F (ya S ⟨2,0,0,0,0,0,0⟩)):=by
 obtain⟨p,q,rfl⟩:=pw hO.two
 have xB:=hS
 obtain⟨ws,ht,cX⟩:=hS
 obtain⟨w1,w2,rfl⟩:=pw (cX.len.trans hO.two)
 obtain⟨eT,AM,AJ,dY,rfl,AK,sS,sR⟩:=ht
 refine bA au [] [] bn<|zD 2<|jn fun b2=>jn fun b3=>jd 8 [0]<|jp (vs:=[zI 2,zI 1,zI 7]) [] [] (fun aA hs hZ=>z0)<|jd 18 [1,0]<|jp (vs:=[zI 0,zI 0,zI 1]) [] [] (fun aA hs hZ=>z0)<|jd 70 [0,0,0,0,0,0]<|jne Fa (vK 0 0 0 0)<|zD 3<|js 73 (!(0==0&&(0==0&&true))) (fun h1=>?_) (fun h1=>?_)
 ·
  have fS:=h1
  try simp only[zB] at fS
  exact absurd fS (by decide)
 have fS:=h1
 try simp only[zB] at fS
 refine jd 6 [0]<|jne Fa (vK 0 0 0 0)<|zD 3<|js 82 (!(0==0&&(0==0&&true))) (fun h2=>?_) (fun h2=>?_)
 ·
  exact absurd h2 (by decide)
 refine jd 5 [1]<|jc (vs:=[.agg ⟨[.slice eT 2 dY]⟩]) [] (I9 (xB) hO) ?_
 rintro _ _ ⟨rm,F,LM,Z,rfl,rfl,hmM,hkM,hMM⟩
 refine jg 0 [.l LM,.l Z]<|jd 10 [2,3,2]<|jp [] [] (fun aA hs hZ=>O0)<|zD 1<|aN 7 fun CN CZ AQ=>jc (vs:=[.agg ⟨[.slice eT 2 dY]⟩,.agg ⟨[zI 2,zI 0,zI 0,zI 0,zI 0,zI 0,zI 0]⟩,(.map (some rm))]) [0,1] (OZ (s:=0) xB hO rfl hmM hkM hMM) ?_
 rintro _ _ ⟨F2,Mb,Z2,rfl,rfl,D5,iT,hM2⟩
 refine jg 0 [.l Mb,.l Z2]<|iS AQ [[2]]<|zD 16<|aE q0 (.tuple ⟨[(.map (some rm)),zI 0]⟩) [] [0,1] (Mb++Z2) (Sub.refl _) ⟨_,_,rfl,rfl,rm,F2,Mb,Z2,rfl,rfl,D5,iT,hM2⟩
theorem aDB{v:Value}{S:List (List ah)}{ro:Nat→Option Obj}(hS:cL ro v S)(hO:eP S):eo zT 168 [.agg ⟨[v]⟩,.agg ⟨[zI 1,zI 1,zI 0,zI 0,zI 0,zI 0,zI 0]⟩] ro [] (fun r Y=>∃rm F LM Z,r= .tuple ⟨[.map (some rm),zI 0]⟩∧Y=LM++Z∧jH rm ox F LM∧F.map (·.1)=bx S∧MV Z F (ya S ⟨1,1,0,0,0,0,0⟩)):=by
 obtain⟨p,q,rfl⟩:=pw hO.two
 have xB:=hS
 obtain⟨ws,ht,cX⟩:=hS
 obtain⟨w1,w2,rfl⟩:=pw (cX.len.trans hO.two)
 obtain⟨eT,AM,AJ,dY,rfl,AK,sS,sR⟩:=ht
 refine bA au [] [] bn<|zD 2<|jn fun b2=>jn fun b3=>jd 8 [0]<|jp (vs:=[zI 1,zI 1,zI 7]) [] [] (fun aA hs hZ=>z0)<|jd 18 [1,0]<|jp (vs:=[zI 1,zI 0,zI 1]) [] [] (fun aA hs hZ=>z0)<|jd 70 [0,0,0,0,0,0]<|jne Fa (vK 0 0 0 0)<|zD 3<|js 73 (!(0==0&&(0==0&&true))) (fun h1=>?_) (fun h1=>?_)
 ·
  have fS:=h1
  try simp only[zB] at fS
  exact absurd fS (by decide)
 have fS:=h1
 try simp only[zB] at fS
 refine jd 6 [0]<|jne Fa (vK 0 0 0 0)<|zD 3<|js 82 (!(0==0&&(0==0&&true))) (fun h2=>?_) (fun h2=>?_)
 ·
  exact absurd h2 (by decide)
 refine jd 5 [1]<|jc (vs:=[.agg ⟨[.slice eT 2 dY]⟩]) [] (I9 (xB) hO) ?_
 rintro _ _ ⟨rm,F,LM,Z,rfl,rfl,hmM,hkM,hMM⟩
 refine jg 0 [.l LM,.l Z]<|jd 10 [2,3,2]<|jp [] [] (fun aA hs hZ=>O0)<|zD 1<|aN 7 fun CN CZ AQ=>jc (vs:=[.agg ⟨[.slice eT 2 dY]⟩,.agg ⟨[zI 1,zI 1,zI 0,zI 0,zI 0,zI 0,zI 0]⟩,(.map (some rm))]) [0,1] (Vx (s:=1) xB hO rfl hmM hkM hMM) ?_
 rintro _ _ ⟨F2,Mb,Z2,rfl,rfl,D5,iT,hM2⟩
 refine jg 0 [.l Mb,.l Z2]<|iS AQ [[2]]<|zD 16<|aE q0 (.tuple ⟨[(.map (some rm)),zI 0]⟩) [] [0,1] (Mb++Z2) (Sub.refl _) ⟨_,_,rfl,rfl,rm,F2,Mb,Z2,rfl,rfl,D5,iT,hM2⟩
theorem aDA{v:Value}{S:List (List ah)}{ro:Nat→Option Obj}(hS:cL ro v S)(hO:eP S):eo zT 168 [.agg ⟨[v]⟩,.agg ⟨[zI 2,zI 1,zI 0,zI 0,zI 0,zI 0,zI 0]⟩] ro [] (fun r Y=>∃rm F LM Z,r= .tuple ⟨[.map (some rm),zI 0]⟩∧Y=LM++Z∧jH rm ox F LM∧F.map (·.1)=bx S∧MV Z F (ya S ⟨2,1,0,0,0,0,0⟩)):=by
 obtain⟨p,q,rfl⟩:=pw hO.two
 have xB:=hS
 obtain⟨ws,ht,cX⟩:=hS
 obtain⟨w1,w2,rfl⟩:=pw (cX.len.trans hO.two)
 obtain⟨eT,AM,AJ,dY,rfl,AK,sS,sR⟩:=ht
 refine bA au [] [] bn<|zD 2<|jn fun b2=>jn fun b3=>jd 8 [0]<|jp (vs:=[zI 2,zI 1,zI 7]) [] [] (fun aA hs hZ=>z0)<|jd 18 [1,0]<|jp (vs:=[zI 1,zI 0,zI 1]) [] [] (fun aA hs hZ=>z0)<|jd 70 [0,0,0,0,0,0]<|jne Fa (vK 0 0 0 0)<|zD 3<|js 73 (!(0==0&&(0==0&&true))) (fun h1=>?_) (fun h1=>?_)
 ·
  have fS:=h1
  try simp only[zB] at fS
  exact absurd fS (by decide)
 have fS:=h1
 try simp only[zB] at fS
 refine jd 6 [0]<|jne Fa (vK 0 0 0 0)<|zD 3<|js 82 (!(0==0&&(0==0&&true))) (fun h2=>?_) (fun h2=>?_)
 ·
  exact absurd h2 (by decide)
 refine jd 5 [1]<|jc (vs:=[.agg ⟨[.slice eT 2 dY]⟩]) [] (I9 (xB) hO) ?_
 rintro _ _ ⟨rm,F,LM,Z,rfl,rfl,hmM,hkM,hMM⟩
 refine jg 0 [.l LM,.l Z]<|jd 10 [2,3,2]<|jp [] [] (fun aA hs hZ=>O0)<|zD 1<|aN 7 fun CN CZ AQ=>jc (vs:=[.agg ⟨[.slice eT 2 dY]⟩,.agg ⟨[zI 2,zI 1,zI 0,zI 0,zI 0,zI 0,zI 0]⟩,(.map (some rm))]) [0,1] (OZ (s:=1) xB hO rfl hmM hkM hMM) ?_
 rintro _ _ ⟨F2,Mb,Z2,rfl,rfl,D5,iT,hM2⟩
 refine jg 0 [.l Mb,.l Z2]<|iS AQ [[2]]<|zD 16<|aE q0 (.tuple ⟨[(.map (some rm)),zI 0]⟩) [] [0,1] (Mb++Z2) (Sub.refl _) ⟨_,_,rfl,rfl,rm,F2,Mb,Z2,rfl,rfl,D5,iT,hM2⟩
theorem aDz{v:Value}{S:List (List ah)}{ro:Nat→Option Obj}(hS:cL ro v S)(hO:eP S):eo zT 168 [.agg ⟨[v]⟩,.agg ⟨[zI 4,zI 1,zI 0,zI 0,zI 0,zI 0,zI 0]⟩] ro [] (fun r Y=>∃rm F LM Z,r= .tuple ⟨[.map (some rm),zI 0]⟩∧Y=LM++Z∧jH rm ox F LM∧F.map (·.1)=bx S∧MV Z F (ya S ⟨4,1,0,0,0,0,0⟩)):=by
 obtain⟨p,q,rfl⟩:=pw hO.two
 have xB:=hS
 obtain⟨ws,ht,cX⟩:=hS
 obtain⟨w1,w2,rfl⟩:=pw (cX.len.trans hO.two)
 obtain⟨eT,AM,AJ,dY,rfl,AK,sS,sR⟩:=ht
 refine bA au [] [] bn<|zD 2<|jn fun b2=>jn fun b3=>jd 8 [0]<|jp (vs:=[zI 4,zI 1,zI 7]) [] [] (fun aA hs hZ=>z0)<|jd 18 [1,0]<|jp (vs:=[zI 1,zI 0,zI 1]) [] [] (fun aA hs hZ=>z0)<|jd 33 [0,0,0,0]<|jp (vs:=[zI 0,zI 0,zI 1]) [] [] (fun aA hs hZ=>z0)<|jd 36 [0,0,0]<|jne Fa (vK 0 0 0 0)<|zD 3<|js 73 (!(0==0&&(0==0&&true))) (fun h1=>?_) (fun h1=>?_)
 ·
  have fS:=h1
  try simp only[zB] at fS
  exact absurd fS (by decide)
 have fS:=h1
 try simp only[zB] at fS
 refine jd 6 [0]<|jne Fa (vK 0 0 0 0)<|zD 3<|js 82 (!(0==0&&(0==0&&true))) (fun h2=>?_) (fun h2=>?_)
 ·
  exact absurd h2 (by decide)
 refine jd 5 [1]<|jc (vs:=[.agg ⟨[.slice eT 2 dY]⟩]) [] (I9 (xB) hO) ?_
 rintro _ _ ⟨rm,F,LM,Z,rfl,rfl,hmM,hkM,hMM⟩
 refine jg 0 [.l LM,.l Z]<|jd 10 [2,3,2]<|jp [] [] (fun aA hs hZ=>O0)<|zD 1<|aN 7 fun CN CZ AQ=>jc (vs:=[.agg ⟨[.slice eT 2 dY]⟩,.agg ⟨[zI 4,zI 1,zI 0,zI 0,zI 0,zI 0,zI 0]⟩,(.map (some rm))]) [0,1] (akn (s:=1) (o:=0) xB hO rfl hmM hkM hMM rfl) ?_
 rintro _ _ ⟨F2,Mb,Z2,rfl,rfl,D5,iT,hM2⟩
 refine jg 0 [.l Mb,.l Z2]<|iS AQ [[2]]<|zD 16<|aE q0 (.tuple ⟨[(.map (some rm)),zI 0]⟩) [] [0,1] (Mb++Z2) (Sub.refl _) ⟨_,_,rfl,rfl,rm,F2,Mb,Z2,rfl,rfl,D5,iT,hM2⟩
def Xi(n:Nat):Int:=if n=0 then 0 else if n <2 then 1 else if n <4 then 2 else if n <8 then 3 else 4
theorem asU{ro:Nat→Option Obj}:∀ {n:Nat},n≤12→dz zT 132 [zU (n:Int)] ro (zI (Xi n))
 |0,_=>by refine bA au [] [] bn (zD 35 (ja 0 (by decide) (zD 3 ?_)));exact aE q0 (zI 0) [] [] [] (Sub.refl _) ⟨_,_,rfl,rfl,rfl,rfl⟩
 |1,_=>by refine bA au [] [] bn (zD 35 (ja 1 (by decide) (zD 3 ?_)));exact aE q0 (zI 1) [] [] [] (Sub.refl _) ⟨_,_,rfl,rfl,rfl,rfl⟩
 |2,_=>by refine bA au [] [] bn (zD 35 (ja 2 (by decide) (zD 3 ?_)));exact aE q0 (zI 2) [] [] [] (Sub.refl _) ⟨_,_,rfl,rfl,rfl,rfl⟩
 |3,_=>by refine bA au [] [] bn (zD 35 (ja 2 (by decide) (zD 3 ?_)));exact aE q0 (zI 2) [] [] [] (Sub.refl _) ⟨_,_,rfl,rfl,rfl,rfl⟩
 |4,_=>by refine bA au [] [] bn (zD 35 (ja 3 (by decide) (zD 3 ?_)));exact aE q0 (zI 3) [] [] [] (Sub.refl _) ⟨_,_,rfl,rfl,rfl,rfl⟩
 |5,_=>by refine bA au [] [] bn (zD 35 (ja 3 (by decide) (zD 3 ?_)));exact aE q0 (zI 3) [] [] [] (Sub.refl _) ⟨_,_,rfl,rfl,rfl,rfl⟩
 |6,_=>by refine bA au [] [] bn (zD 35 (ja 3 (by decide) (zD 3 ?_)));exact aE q0 (zI 3) [] [] [] (Sub.refl _) ⟨_,_,rfl,rfl,rfl,rfl⟩
 |7,_=>by refine bA au [] [] bn (zD 35 (ja 3 (by decide) (zD 3 ?_)));exact aE q0 (zI 3) [] [] [] (Sub.refl _) ⟨_,_,rfl,rfl,rfl,rfl⟩
 |8,_=>by refine bA au [] [] bn (zD 35 (ja 4 (by decide) (zD 3 ?_)));exact aE q0 (zI 4) [] [] [] (Sub.refl _) ⟨_,_,rfl,rfl,rfl,rfl⟩
 |9,_=>by refine bA au [] [] bn (zD 35 (ja 4 (by decide) (zD 3 ?_)));exact aE q0 (zI 4) [] [] [] (Sub.refl _) ⟨_,_,rfl,rfl,rfl,rfl⟩
 |10,_=>by refine bA au [] [] bn (zD 35 (ja 4 (by decide) (zD 3 ?_)));exact aE q0 (zI 4) [] [] [] (Sub.refl _) ⟨_,_,rfl,rfl,rfl,rfl⟩
 |11,_=>by refine bA au [] [] bn (zD 35 (ja 4 (by decide) (zD 3 ?_)));exact aE q0 (zI 4) [] [] [] (Sub.refl _) ⟨_,_,rfl,rfl,rfl,rfl⟩
 |12,_=>by refine bA au [] [] bn (zD 35 (ja 4 (by decide) (zD 3 ?_)));exact aE q0 (zI 4) [] [] [] (Sub.refl _) ⟨_,_,rfl,rfl,rfl,rfl⟩
 |n+13,h=>absurd h (by omega)
theorem Zj{n:Nat}(h:n≤1000):Value.int .u64 (IntKind.u64.wrap (n:Int))= zU (n:Int):=by
 rw[rK .u64 rfl _ (by omega) (by simp[IntKind.bits];omega)]
def LV(v:Value)(xs:List ah)(Y:Cells):Prop:=∃ys,ys.Perm xs∧az v 2 70 cI ys Y
theorem asV{n:Nat}{ro:Nat→Option Obj}(h:n≤12):dz zT 95 [zU (n:Int)] ro (zI (Xi n)):=by
 refine bA au [] [] bn<|zD 10<|jp (vs:=[zU (n:Int)]) [] [] (fun aA hs hZ=>(asU h))<|zD 3<|aE q0 (zI (Xi n)) [] [] [] (Sub.refl _) ⟨_,_,rfl,rfl,rfl,rfl⟩
theorem aRJ{v:Value}{xs:List ah}{L:Cells}{a b:Int}{ro:Nat→Option Obj}(ho:az v 2 70 cI xs L)(hN:xs.length≤1000)(Ea:0≤a∧a≤b∧b≤xs.length):eo zT 247 [v,zI a,zI b,.func (.func 176) ⟨[]⟩ ⟨[]⟩] ro L (fun r Y=>LV v xs Y):=by
 refine bA au [.l L] [] bn<|zD 3<|ja (a+1) (by omega)<|zD 3<|ez [1,0,0] [] (fun(zz:Int×(List ah)×Cells)=>[(0,v),(1,zI a),(2,zI b),(3,.func (.func 176) ⟨[]⟩ ⟨[]⟩),(8,zI zz.1)]) (fun(zz:Int×(List ah)×Cells)=>[.l zz.2.2]) (fun(zz:Int×(List ah)×Cells)=>(a+1≤zz.1)∧az v 2 70 cI zz.2.1 zz.2.2∧zz.2.1.Perm xs) (fun(zz:Int×(List ah)×Cells)=>(b-zz.1).toNat) (⟨(a+1),xs,L⟩) ⟨by dsimp only;omega,ho,.refl _⟩ [0] ?_
 rintro⟨i,ys,L⟩ hI K1 bM rest
 dsimp only at hI
 have U5:=hI.2.2.length_eq
 refine zD 7<|zJ 14 (i <b) (fun h1=>?_) fun h1=>?_
 ·
  refine zD 10<|ez [1,0,0,1,0,0,1,0,0] [K1] (fun(zz:Int×(List ah)×Cells)=>[(0,v),(1,zI a),(2,zI b),(3,.func (.func 176) ⟨[]⟩ ⟨[]⟩),(8,zI i),(9,zI zz.1)]) (fun(zz:Int×(List ah)×Cells)=>[.l zz.2.2]) (fun(zz:Int×(List ah)×Cells)=>(a≤zz.1∧zz.1≤i)∧az v 2 70 cI zz.2.1 zz.2.2∧zz.2.1.Perm xs) (fun(zz:Int×(List ah)×Cells)=>(zz.1-a).toNat) (⟨i,ys,L⟩) ⟨by dsimp only;omega,hI.2⟩ [0] ?_
  rintro⟨j,ys,L⟩ hJ K2 mo rest
  dsimp only at hJ
  have U5:=hJ.2.2.length_eq
  refine zD 7<|js 3 (decide (j>a)) (fun h2=>?_) (fun h2=>?_)
  ·
   have kF:=h2
   replace kF:=of_decide_eq_true kF
   refine zD 3 ?_
   obtain⟨xN,kQ⟩:=zG ys (j.toNat) (by first|omega| (simp only[List.length_set];omega))
   refine pP j 2 hJ.2.1 kQ (Int.toNat_of_nonneg (show 0≤j∧j <((ys).length:Int) from (by first|omega| (simp only[List.length_set];omega))).1).symm (fun dL adX=>?_)
   refine oJ 0 [0] L (fun s _ hZ=>cv hJ.2.1 adX hZ kQ)<|zD 2<|ja (j-1) (by omega) ?_
   obtain⟨od,jQ⟩:=zG ys ((j-1).toNat) (by first|omega| (simp only[List.length_set];omega))
   refine pP (j-1) 2 hJ.2.1 jQ (Int.toNat_of_nonneg (show 0≤(j-1)∧(j-1) <((ys).length:Int) from (by first|omega| (simp only[List.length_set];omega))).1).symm (fun b30 Sn=>?_)
   refine oJ 0 [0] L (fun s _ hZ=>cv hJ.2.1 Sn hZ jQ)<|aN 14 fun sW sZ rD=>jp (vs:=[.agg ⟨[zI xN.n,zI xN.l]⟩,.agg ⟨[zI od.n,zI od.l]⟩]) [] [] (fun aA hs hZ=>(amP (x:=xN) (y:=od)))<|bC rD [0]<|zD 3<|zJ 34 ((Yg xN od) <0) (fun h4=>?_) fun h4=>?_
   ·
    refine zD 9<|ja (j-1) (by omega)<|zD 2<|ja (j-1) (by omega) ?_
    obtain⟨wX,De⟩:=zG ys ((j-1).toNat) (by first|omega| (simp only[List.length_set];omega))
    refine pP (j-1) 2 hJ.2.1 De (Int.toNat_of_nonneg (show 0≤(j-1)∧(j-1) <((ys).length:Int) from (by first|omega| (simp only[List.length_set];omega))).1).symm (fun b45 adW=>?_)
    refine oJ 0 [0] L (fun s _ hZ=>cv hJ.2.1 adW hZ De)<|zD 2 ?_
    obtain⟨Hi,Dd⟩:=zG ys (j.toNat) (by first|omega| (simp only[List.length_set];omega))
    refine pP j 2 hJ.2.1 Dd (Int.toNat_of_nonneg (show 0≤j∧j <((ys).length:Int) from (by first|omega| (simp only[List.length_set];omega))).1).symm (fun b49 adV=>?_)
    refine oJ 0 [0] L (fun s _ hZ=>cv hJ.2.1 adV hZ Dd) ?_
    obtain⟨x51,Dc⟩:=zG ys (j.toNat) (by first|omega| (simp only[List.length_set];omega))
    refine pP j 2 hJ.2.1 Dc (Int.toNat_of_nonneg (show 0≤j∧j <((ys).length:Int) from (by first|omega| (simp only[List.length_set];omega))).1).symm (fun b51 adU=>?_)
    refine aN 15 fun uv uw sB=>PT 0 0 [zI wX.n,zI wX.l] (⟨wX.n,wX.l⟩:ah) hJ.2.1 adU Dc rfl rfl (Nat.le_of_ble_eq_true rfl) fun L6 XG=>iS sB [] ?_
    obtain⟨x52,Bx⟩:=zG ((ys.set j.toNat (⟨wX.n,wX.l⟩:ah))) ((j-1).toNat) (by first|omega| (simp only[List.length_set];omega))
    refine pP (j-1) 2 XG Bx (Int.toNat_of_nonneg (show 0≤(j-1)∧(j-1) <(((ys.set j.toNat (⟨wX.n,wX.l⟩:ah))).length:Int) from (by first|omega| (simp only[List.length_set];omega))).1).symm (fun b52 adT=>?_)
    refine aN 17 fun CL CX Dp=>PT 0 0 [zI Hi.n,zI Hi.l] (⟨Hi.n,Hi.l⟩:ah) XG adT Bx rfl rfl (Nat.le_of_ble_eq_true rfl) fun L9 adj=>eO Dp<|zD 3<|ja (j-1) (by omega)<|zD 2<|bO mo (⟨(j-1),((ys.set j.toNat (⟨wX.n,wX.l⟩:ah)).set ((j-1).toNat) (⟨Hi.n,Hi.l⟩:ah)),L9⟩) ⟨by dsimp only;omega,adj,(mW Dd De).trans hJ.2.2⟩ (by dsimp only;omega) [0] (Sub.refl _)
   refine zD 4<|ja (i+1) (by omega)<|zD 2<|bO bM (⟨(i+1),ys,L⟩) ⟨by dsimp only;omega,hJ.2⟩ (by dsimp only;omega) [0] (Sub.refl _)
  have kF:=h2
  replace kF:=of_decide_eq_false kF
  refine zD 18<|ja (i+1) (by omega)<|zD 2<|bO bM (⟨(i+1),ys,L⟩) ⟨by dsimp only;omega,hJ.2⟩ (by dsimp only;omega) [0] (Sub.refl _)
 refine zD 2<|aE q0 (.tuple ⟨[]⟩) [] [0] L (Sub.refl _) ⟨_,_,rfl,rfl,ys,hI.2.2,hI.2.1⟩
theorem aRH{v:Value}{xs:List ah}{L:Cells}{lim:Int}{ro:Nat→Option Obj}(ho:az v 2 70 cI xs L)(hN:xs.length≤12):eo zT 229 [v,zI 0,zI (xs.length:Int),zI lim,.func (.func 176) ⟨[]⟩ ⟨[]⟩] ro L (fun r Y=>LV v xs Y):=by
 refine bA au [.l L] [] bn<|zD 9<|ez [1,1,0,0] [] (fun(zz:Nat)=>[(0,v),(1,zI 0),(2,zI (xs.length:Int)),(3,zI lim),(4,.func (.func 176) ⟨[]⟩ ⟨[]⟩),(10,.bool true),(11,.bool true)]) (fun(zz:Nat)=>[.l L]) (fun(zz:Nat)=>True) (fun(zz:Nat)=>zz) 0 trivial [0] ?_
 rintro z hI K1 bM rest
 refine zD 5<|ja ((xs.length:Int)-0) (by omega)<|zD 8<|zJ 25 (((xs.length:Int)-0)≤12) (fun h1=>?_) fun h1=>?_
 ·
  refine zD 7<|jc (vs:=[v,zI 0,zI (xs.length:Int),.func (.func 176) ⟨[]⟩ ⟨[]⟩]) [0] (aRJ ho (by omega) (by omega)) ?_
  rintro awq Y30 ⟨aH0,aqL,BA⟩
  refine zD 2<|aE q0 (.tuple ⟨[]⟩) [] [0] Y30 (Sub.refl _) ⟨_,_,rfl,rfl,_,aqL,BA⟩
 exfalso;omega
theorem aeP{v:Value}{xs:List ah}{L:Cells}{ro:Nat→Option Obj}(ho:az v 2 70 cI xs L)(hN:xs.length≤12):eo zT 202 [v,.func (.func 176) ⟨[]⟩ ⟨[]⟩] ro L (fun r Y=>LV v xs Y):=by
 refine bA au [.l L] [] bn<|zD 3<|DX ho<|zD 6<|je (zU (xs.length:Int)) (Zj (by omega))<|jp (vs:=[zU (xs.length:Int)]) [] [] (fun aA hs hZ=>(asV (by omega)))<|zD 1<|jc (vs:=[v,zI 0,zI (xs.length:Int),zI (Xi xs.length),.func (.func 176) ⟨[]⟩ ⟨[]⟩]) [0] (aRH ho (by omega)) ?_
 rintro awr Y13 ⟨aH2,XE,R6⟩
 refine zD 1<|aE q0 (.tuple ⟨[]⟩) [] [0] Y13 (Sub.refl _) ⟨_,_,rfl,rfl,_,XE,R6⟩
theorem aDv{v:Value}{xs:List aj}{L:Cells}{ro:Nat→Option Obj}(ho:az v 3 144 cw xs L)(hN:xs.length≤1):eo zT 204 [v,zI 0,zI (xs.length:Int),.func (.func 121) ⟨[]⟩ ⟨[]⟩] ro L (fun r Y=>az v 3 144 cw xs Y):=by
 refine bA au [.l L] [] bn<|zD 7<|ez [1,0,0] [] (fun(zz:Nat)=>[(0,v),(1,zI 0),(2,zI (xs.length:Int)),(3,.func (.func 121) ⟨[]⟩ ⟨[]⟩),(8,zI (0+1))]) (fun(zz:Nat)=>[.l L]) (fun(zz:Nat)=>True) (fun(zz:Nat)=>zz) 0 trivial [0] ?_
 rintro z hI K1 bM rest
 refine zD 7<|zJ 14 ((0+1) <(xs.length:Int)) (fun h1=>?_) fun h1=>?_
 ·
  exfalso;omega
 refine zD 2<|aE q0 (.tuple ⟨[]⟩) [] [0] L (Sub.refl _) ⟨_,_,rfl,rfl,ho⟩
theorem aDq{v:Value}{xs:List aj}{L:Cells}{lim:Int}{ro:Nat→Option Obj}(ho:az v 3 144 cw xs L)(hN:xs.length≤1):eo zT 174 [v,zI 0,zI (xs.length:Int),zI lim,.func (.func 121) ⟨[]⟩ ⟨[]⟩] ro L (fun r Y=>az v 3 144 cw xs Y):=by
 refine bA au [.l L] [] bn<|zD 9<|ez [1,1,0,0] [] (fun(zz:Nat)=>[(0,v),(1,zI 0),(2,zI (xs.length:Int)),(3,zI lim),(4,.func (.func 121) ⟨[]⟩ ⟨[]⟩),(10,.bool true),(11,.bool true)]) (fun(zz:Nat)=>[.l L]) (fun(zz:Nat)=>True) (fun(zz:Nat)=>zz) 0 trivial [0] ?_
 rintro z hI K1 bM rest
 refine zD 5<|ja ((xs.length:Int)-0) (by omega)<|zD 8<|zJ 25 (((xs.length:Int)-0)≤12) (fun h1=>?_) fun h1=>?_
 ·
  refine zD 7<|jc (vs:=[v,zI 0,zI (xs.length:Int),.func (.func 121) ⟨[]⟩ ⟨[]⟩]) [0] (aDv ho (by omega)) ?_
  rintro awq Y30 BA
  refine zD 2<|aE q0 (.tuple ⟨[]⟩) [] [0] Y30 (Sub.refl _) ⟨_,_,rfl,rfl,BA⟩
 exfalso;omega
theorem asT{v:Value}{xs:List aj}{L:Cells}{ro:Nat→Option Obj}(ho:az v 3 144 cw xs L)(hN:xs.length≤1):eo zT 120 [v,.func (.func 121) ⟨[]⟩ ⟨[]⟩] ro L (fun r Y=>az v 3 144 cw xs Y):=by
 refine bA au [.l L] [] bn<|zD 3<|DX ho<|zD 6<|je (zU (xs.length:Int)) (Zj (by omega))<|jp (vs:=[zU (xs.length:Int)]) [] [] (fun aA hs hZ=>(asV (by omega)))<|zD 1<|jc (vs:=[v,zI 0,zI (xs.length:Int),zI (Xi xs.length),.func (.func 121) ⟨[]⟩ ⟨[]⟩]) [0] (aDq ho (by omega)) ?_
 rintro awr Y13 R6
 refine zD 1<|aE q0 (.tuple ⟨[]⟩) [] [0] Y13 (Sub.refl _) ⟨_,_,rfl,rfl,R6⟩
theorem aeT{v:Value}{xs:List aj}{L:Cells}{ro:Nat→Option Obj}(ho:az v 3 144 cw xs L)(hN:xs.length≤1):eo zT 122 [v] ro L (fun r Y=>v=r∧L=Y):=by
 refine bA au [.l L] [] bn<|zD 8<|DX ho<|zD 2<|zJ 8 ((xs.length:Int) <2) (fun h1=>?_) fun h1=>?_
 ·
  refine zD 7<|aE q0 (v) [] [0] L (Sub.refl _) ⟨_,_,rfl,rfl,rfl,rfl⟩
 exfalso;omega
theorem Vy{v:Value}{xs:List aj}{ro:Nat→Option Obj}(hl:bI ro v 3 cw xs)(hN:xs.length≤1):eo zT 92 [v] ro [] (fun r Y=>az r 3 144 cw xs Y):=by
 obtain⟨fp,rh,q9,eJ,rfl,tq,k8,me⟩:=hl
 refine bA au [] [] bn<|zD 7<|jc (vs:=[.slice fp xs.length eJ]) [] (aRM (show bI _ _ _ _ _ from ⟨fp,rh,q9,eJ,rfl,tq,k8,me⟩) (by first|omega| (simp only[List.length_set,List.length_append,List.length_cons,List.length_nil];omega))) ?_
 rintro v5 L5 ho5
 obtain⟨va5,vc5,he5⟩:=ho5.form
 subst he5
 refine zD 5<|jc (vs:=[(.slice va5 (xs).length vc5),.func (.func 121) ⟨[]⟩ ⟨[]⟩]) [0] (asT ho5 (by omega)) ?_
 rintro rv7 Y7 XG
 refine zD 4<|jc (vs:=[(.slice va5 (xs).length vc5)]) [0] (aeT XG (by omega)) ?_
 rintro _ _ ⟨rfl,rfl⟩
 refine zD 3<|aE q0 ((.slice va5 (xs).length vc5)) [] [0] Y7 (Sub.refl _) ⟨_,_,rfl,rfl,XG⟩
theorem MV.put{Z2:Cells}{F:List (aj×Value)}{g:aj→aj}(h:MV Z F g){k:aj}{v:Value}(hv:∀aK,Knows aK Z2→bI aK v 3 cw [g k]):MV (Z++Z2) (lO k v F) g:=by
 have h1:∀x∈lO k v F,x=(k,v)∨x∈F:=fun x hx=>by
  unfold lO at hx
  split at hx
  ·rw[DN] at hx
   obtain⟨i,hi⟩:=List.getElem?_of_mem hx
   rw[List.getElem?_set] at hi
   split at hi
   ·split at hi
    ·cases hi;exact .inl rfl
    cases hi
   exact .inr (List.mem_of_getElem? hi)
  rcases List.mem_append.1 hx with h|h
  ·exact .inr h
  exact .inl (List.mem_singleton.1 h)
 intro aK hr x hx
 rcases h1 x hx with rfl|hx
 ·exact hv aK hr.right
 exact h aK hr.left x hx
theorem MD{κ:Type}[DecidableEq κ]{k x:κ}{v:Value}{F:List (κ×Value)}(h:x=k∨x∈F.map (·.1)):x∈(lO k v F).map (·.1):=by
 unfold lO
 split
 ·rename_i i u hf
  have yn:=(p7 hf).2
  rw[Nat.sub_zero] at yn
  have hs:((F.set i (k,v)).map (·.1))=F.map (·.1):=by
   rw[List.map_set]
   refine List.ext_getElem? fun j=>?_
   rw[List.getElem?_set]
   split
   ·rename_i hj;subst hj;simp[yn,(List.getElem?_eq_some_iff.1 yn).1,(List.getElem?_eq_some_iff.1 yn).2]
   rfl
  rw[DN,hs]
  rcases h with rfl|h
  ·exact List.mem_map_of_mem (f:=(·.1)) (List.mem_of_getElem? yn)
  exact h
 rw[List.map_append]
 rcases h with rfl|h
 ·exact List.mem_append_right _ (by simp)
 exact List.mem_append_left _ h
def Seen(es:Array MapEntry)(seen:List Nat)(F:List (aj×Value)):Prop:=∀e∈es.toList,e∈cy es seen∨∃k,e.key=ox k∧k∈F.map (·.1)
theorem Seen.start{es:Array MapEntry}{F:List (aj×Value)}:Seen es [] F:=fun e he=> .inl (by rw[Bu];exact he)
theorem Seen.step{es:Array MapEntry}{F0 F:List (aj×Value)}(h:Seen es seen F)(hE:sO ox F0 es ck){e:MapEntry}(he:e∈cy es seen){k:aj}(hk:e.key=ox k){v:Value}:Seen es (seen++[e.born]) (lO k v F):=fun x hx=>by
 rcases h x hx with h1| ⟨q,h1,h2⟩
 ·rcases Ru hE he h1 with rfl|h2
  ·exact .inr ⟨k,hk,MD (.inl rfl)⟩
  exact .inl h2
 exact .inr ⟨q,h1,MD (.inr h2)⟩
theorem ai1{a b:aj}(h:ox a=ox b):a=b:=by
 rcases a with ⟨x,y,z⟩;rcases b with ⟨d,e,f⟩
 simp only[ox,cw,Value.agg.injEq,Array.mk.injEq,List.cons.injEq,Value.int.injEq] at h
 simp[h.1.2,h.2.1.2,h.2.2.1.2]
theorem Seen.fin{es:Array MapEntry}{F0 F:List (aj×Value)}(h:Seen es seen F)(hl:cy es seen=[])(hE:sO ox F0 es ck){k:aj}(hk:k∈F0.map (·.1)):k∈F.map (·.1):=by
 obtain⟨⟨k',v⟩,h1,rfl⟩:=List.mem_map.1 hk
 have:(ox k',v)∈es.toList.map (fun e=>(e.key,e.val)):=by rw[hE.1];exact List.mem_map_of_mem (f:=fun x:aj×Value=>(ox x.1,x.2)) h1
 obtain⟨e,h2,h3⟩:=List.mem_map.1 this
 simp only[Prod.mk.injEq] at h3
 rcases h e h2 with h4| ⟨q,h4,h5⟩
 ·rw[hl] at h4;cases h4
 have:=ai1 (h3.1.symm.trans h4);subst this;exact h5
structure PG(ro:Nat→Option Obj)(r:Nat)(H:List aj)(g:aj→aj)(es:Array MapEntry)(ck:Nat)(F:List (aj×Value)):Prop where
 m:ro r=some (.map es ck)
 e:sO ox F es ck
 k:F.map (·.1)=H
 v:∀x∈F,bI ro x.2 3 cw [g x.1]
theorem E6{a x:α}{j:Nat}(h: [a][j]?=some x):x=a∧j=0:=by
 cases j with
 |zero=>simp at h;exact⟨h.symm,rfl⟩
 |succ j=>simp at h
theorem amN{AS:Array MapEntry}{F1:List (aj×Value)}{r2 Yi:Nat}{Dt:Array MapEntry}{F2:List (aj×Value)}{H:List aj}{g:aj→aj}{ro:Nat→Option Obj}(Hd:PG ro r1 H id AS Hh F1)(hP2:PG ro r2 H g Dt Yi F2):eo zT 171 [(.map (some r1)),(.map (some r2))] ro [] (fun r Y=>∃rm F LM Z,r= .map (some rm)∧Y=LM++Z∧jH rm ox F LM∧(∀h∈H,h∈F.map (·.1))∧MV Z F g):=by
 refine bA au [] [] bn<|zD 6<|jmk ox fun EL L11 adp=>zD 6<|jmR Hd.m fun r13=>jg 0 [.b r13 (ui r1 Hh [])]<|zD 2<|pQ<|ez [1,1,0,1,0,0] [] (fun(zz:(List Nat)×(List (aj×Value))×Cells×Cells)=>[(1,(.map (some r2))),(4,(.map none)),(5,(.map (some EL))),(13,zP r13)]) (fun(zz:(List Nat)×(List (aj×Value))×Cells×Cells)=>[.b r13 (ui r1 Hh zz.1),.l zz.2.2.1,.l zz.2.2.2]) (fun(zz:(List Nat)×(List (aj×Value))×Cells×Cells)=>jH EL ox zz.2.1 zz.2.2.1∧Seen AS zz.1 zz.2.1∧MV zz.2.2.2 zz.2.1 g) (fun(zz:(List Nat)×(List (aj×Value))×Cells×Cells)=>(cy AS zz.1).length) (⟨[],[],L11,[]⟩) ⟨adp,Seen.start,fun _ _ _ h=>(by cases h)⟩ [1,2,0] ?_
 rintro⟨seen,F,LM,Z⟩ hI K1 bM rest
 dsimp only at hI
 refine zD 2<|jmN (it:=r13) (kv:=ox) (seen:=seen) 0 Hd.m Hd.e (fun Mi v14 Ak az1 xp ajN aNn=>?_) (fun aMP=>?_)
 ·
  have hkH:Mi∈H:=by rw[←Hd.k];exact List.mem_map_of_mem (f:=(·.1)) az1
  have hvv:bI ro v14 3 cw [Mi]:=Hd.v _ az1
  obtain⟨Nd,qvb,qvo,C2,rfl,qvk,Q0,QZ⟩:=hvv
  refine jg 0 [.b r13 (ui r1 Hh (seen++[Ak.born]))]<|zD 8<|jmE (it:=r13) 0 Hd.m Hd.e xp ajN aNn<|jg 0 [.b r13 (ui r1 Hh (seen++[Ak.born]))]<|zD 2<|jn fun b6=>jd 15 [0]<|pQ<|ez [1,1,0,1,0,0,1,1,0,1,1,0,1,0,0] [K1] (fun(zz:Nat×Value×Cells)=>[(1,(.map (some r2))),(4,(.map none)),(5,(.map (some EL))),(6,zP b6),(8,zz.2.1),(13,zP r13),(19,.slice Nd ([Mi].length) C2),(20,zI ([Mi].length:Int)),(21,zI (zz.1:Int))]) (fun(zz:Nat×Value×Cells)=>[.l zz.2.2,.b b6 (.cells ⟨[zI Mi.h,zI Mi.n,zI Mi.l]⟩ 144 (0,0)),.b r13 (ui r1 Hh (seen++[Ak.born])),.l LM,.l Z]) (fun(zz:Nat×Value×Cells)=>zz.1≤[Mi].length∧az zz.2.1 3 144 cw ([g Mi].take zz.1) zz.2.2) (fun(zz:Nat×Value×Cells)=>[Mi].length-zz.1) (⟨0,zS,[]⟩) ⟨by simp,az.nil _ _ _⟩ [0,1,2,3,4] ?_
  rintro⟨i,vO,LO⟩ hJ K2 mo rest
  dsimp only at hJ
  have P3: [Mi].length=1:=rfl
  refine zD 5<|zJ 22 ((i:Int) <([Mi].length:Int)) (fun h1=>?_) fun h1=>?_
  ·
   refine zD 6 ?_
   obtain⟨uG,sq⟩:=zG ([Mi]) i
   refine ij C2 3 Q0 sq<|jl 0 (QZ _ _ sq)<|jn fun rI=>jd 2 [0] ?_
   obtain⟨hxe,hj0⟩:=E6 sq
   refine jd 4 [0]<|jlu (kv:=ox) (F:=F2) (r:=r2) (K:=144) uG (zS) false [] [] Cp (fun s he _=>⟨_,_,he _ _ (.inl hP2.m),hP2.e⟩) ?_
   obtain⟨w28,aNa,aq3⟩:=UN (k:=uG) (F:=F2) (by rw[hP2.k,hxe];exact hkH)
   have hww:bI ro w28 3 cw [g uG]:=hP2.v _ aq3
   obtain⟨QX,qwb,qwo,JR,rfl,qwk,qwh,qwl⟩:=hww
   refine jw 28 (.slice QX ([g uG].length) JR) (show NU (zS) false uG F2=_ from by simp only[NU,aNa];rfl) ?_
   refine ku (sz:=3) (ps:=([g Mi].take i)) (qs:=[g uG]) (enc:=cw) (w:= .slice QX ([g uG].length) JR) [1] [] [] (hJ.2) (fun s he _=>⟨QX,qwb,qwo,JR,rfl,qwh,fun i p hp=>(qwl i p hp).ext he⟩) (fun p _=>an rfl) (by simp only[List.length_take,List.length_cons,List.length_nil];omega) (fun v29 L29 FN=>?_)
   obtain⟨ZF,Zy,adL⟩:=FN.form
   subst adL
   refine zD 3<|ja ((i:Int)+1) (by omega)<|zD 2<|bO mo (⟨i+1,(.slice ZF ((([g Mi].take i)++[g uG])).length Zy),L29⟩) ⟨by dsimp only;omega,by have:=FN;rw[hj0] at this ⊢;rw[hxe] at this;exact this⟩ (by dsimp only;omega) [0,2,3,4,5] (Sub.refl _)
  refine jd 6 [1]<|aN 3 fun sW sZ rD=>YQ (vs:=[vO]) [] [0] LO (fun aA hs hZ=>Vy (hJ.2.ma hZ) (by simp only[List.length_take,List.length_cons,List.length_nil];omega)) ?_
  rintro v34 L34 aN2
  refine bC rD [1,2,3,4,5]<|aN 4 fun uv uw sB=>jmu (kv:=ox) (F:=F) (r:=EL) (K:=144) 4 Mi (v34) Cp hI.1 fun Lm4 hm4=>eO sB<|zD 1<|N3 bM (⟨(seen++[Ak.born]),_,Lm4,Z++L34⟩) ⟨hm4,hI.2.1.step Hd.e xp ajN,hI.2.2.put fun aK hk=>(by have:=aN2;rw[show ([g Mi].take i)=[g Mi] from List.take_of_length_le (by simp;omega)] at this;exact this.ma hk)⟩ (Fs xp) [[4],[0],[5,1]] (Sub.refl _)
 refine jg 0 [.b r13 (ui r1 Hh seen)]<|zD 11<|aE q0 ((.map (some EL))) [] [1,2] (LM++Z) (Sub.refl _) ⟨_,_,rfl,rfl,EL,F,LM,Z,rfl,rfl,hI.1,fun h hh=>hI.2.1.fin aMP Hd.e (by rw[Hd.k];exact hh),hI.2.2⟩
theorem abA{κ:Type}{kv:κ→Value}{F:List (κ×Value)}{es:Array MapEntry}(h:sO kv F es ck):es.toList.length=F.length:=by
 have:=congrArg List.length h.1
 simpa using this
theorem aeV{AS:Array MapEntry}{F1:List (aj×Value)}{H:List aj}{g:aj→aj}{ro:Nat→Option Obj}(Hd:PG ro r1 H g AS Hh F1)(hn:H.length≤8)(hS:∀x∈F1,(g x.1).h=0∨(g x.1).h=1):eo zT 170 [(.map (some r1)),zI 2] ro [] (fun r Y=>∃a n c,r= .agg ⟨[.slice a n c]⟩):=by
 refine bA au [] [] bn<|zD 2<|jn fun b4=>zD 4<|jmS (E:=71) (z:= zS) fun yP=>jg 0 [.b yP (.cells ⟨[zS,zS]⟩ 71 (0,0))]<|zD 1<|jn fun b5=>jd 6 [0]<|jmR Hd.m fun WO=>jg 0 [.b WO (ui r1 Hh [])]<|zD 2<|pQ<|pQ<|ez [1,1,0,1,0,0] [] (fun(zz:(List Nat)×Value×Cells×(List ah)×Value×Cells×(List ah))=>[(4,zP b4),(5,zP b5),(16,zP WO)]) (fun(zz:(List Nat)×Value×Cells×(List ah)×Value×Cells×(List ah))=>[.b WO (ui r1 Hh zz.1),.b yP (.cells ⟨[zz.2.1,zz.2.2.2.2.1]⟩ 71 (0,0)),.l zz.2.2.1,.l zz.2.2.2.2.2.1,.b b5 (.cells ⟨[.slice (some ⟨yP,0,none⟩) 2 2]⟩ 25 (0,0)),.b b4 (.cells ⟨[zS]⟩ 25 (0,0))]) (fun(zz:(List Nat)×Value×Cells×(List ah)×Value×Cells×(List ah))=>zz.2.2.2.1.length+zz.2.2.2.2.2.2.length+(cy AS zz.1).length≤8∧az zz.2.1 2 70 cI zz.2.2.2.1 zz.2.2.1∧az zz.2.2.2.2.1 2 70 cI zz.2.2.2.2.2.2 zz.2.2.2.2.2.1) (fun(zz:(List Nat)×Value×Cells×(List ah)×Value×Cells×(List ah))=>(cy AS zz.1).length) (⟨[],zS,[],[],zS,[],[]⟩) ⟨by rw[Bu,abA Hd.e];have:=congrArg List.length Hd.k;simp at this ⊢;omega,az.nil _ _ _,az.nil _ _ _⟩ [2,4,1,0,3,5] ?_
 rintro⟨seen,w0,L0,p0,w1,L1,p1⟩ hI K1 bM rest
 dsimp only at hI
 refine zD 2<|jmN (it:=WO) (kv:=ox) (seen:=seen) 0 Hd.m Hd.e (fun k17 v17 e17 ajS OG XO aNl=>?_) (fun baW=>?_)
 ·
  have hvv:bI ro v17 3 cw [g k17]:=Hd.v _ ajS
  obtain⟨Nd,qvb,qvo,C2,rfl,qvk,Q0,QZ⟩:=hvv
  have hsg:(g k17).h=0∨(g k17).h=1:=hS _ ajS
  have cz:=Fs OG
  refine jg 0 [.b WO (ui r1 Hh (seen++[e17.born]))]<|zD 8<|jmE (it:=WO) 0 Hd.m Hd.e OG XO aNl<|jg 0 [.b WO (ui r1 Hh (seen++[e17.born]))]<|zD 10<|ez [1,1,0,1,0,0,1,1,0,1,1,0,0] [K1] (fun(zz:Nat×Value×Cells×(List ah)×Value×Cells×(List ah))=>[(4,zP b4),(5,zP b5),(16,zP WO),(21,.slice Nd ([g k17].length) C2),(22,zI ([g k17].length:Int)),(23,zI (zz.1:Int))]) (fun(zz:Nat×Value×Cells×(List ah)×Value×Cells×(List ah))=>[.b WO (ui r1 Hh (seen++[e17.born])),.b yP (.cells ⟨[zz.2.1,zz.2.2.2.2.1]⟩ 71 (0,0)),.l zz.2.2.1,.l zz.2.2.2.2.2.1,.b b5 (.cells ⟨[.slice (some ⟨yP,0,none⟩) 2 2]⟩ 25 (0,0)),.b b4 (.cells ⟨[zS]⟩ 25 (0,0))]) (fun(zz:Nat×Value×Cells×(List ah)×Value×Cells×(List ah))=>(zz.1≤1∧zz.2.2.2.1.length+zz.2.2.2.2.2.2.length+(cy AS (seen++[e17.born])).length+(1-zz.1)≤8)∧az zz.2.1 2 70 cI zz.2.2.2.1 zz.2.2.1∧az zz.2.2.2.2.1 2 70 cI zz.2.2.2.2.2.2 zz.2.2.2.2.2.1) (fun(zz:Nat×Value×Cells×(List ah)×Value×Cells×(List ah))=>1-zz.1) (⟨0,w0,L0,p0,w1,L1,p1⟩) ⟨by dsimp only;omega,hI.2⟩ [0,1,2,3,4,5] ?_
  rintro⟨i,w0,L0,p0,w1,L1,p1⟩ hJ K2 mo rest
  dsimp only at hJ
  have P3: [g k17].length=1:=rfl
  refine zD 5<|zJ 24 ((i:Int) <([g k17].length:Int)) (fun h1=>?_) fun h1=>?_
  ·
   refine zD 6 ?_
   obtain⟨xN,kQ⟩:=zG ([g k17]) i
   refine ij C2 3 Q0 kQ<|jl 0 (QZ _ _ kQ) ?_
   obtain⟨hxe,hi0⟩:=E6 kQ;rw[←hxe] at hsg;obtain⟨xh,xn,xl⟩:=xN;dsimp only at hsg;rcases hsg with rfl|rfl
   ·
    refine jn fun b9=>jd 11 [0,5,0,5,0]<|jd 4 [2,0]<|aN 12 fun sW sZ rD=>jn fun b39=>bC rD [1,2,3,4,5,6,7]<|aN 13 fun uv uw sB=>ku (sz:=2) (ps:=p0) (qs:=[(⟨xn,xl⟩:ah)]) (enc:=cI) (w:= .slice (some ⟨b39,0,none⟩) 1 1) [4] [0] [(b39,.cells ⟨([(⟨xn,xl⟩:ah)].map cI).flatten⟩ 70 (0,0))] (hJ.2.1) (fun s _ hZ=>bX [(⟨xn,xl⟩:ah)] (hZ _ (.head _)) (by intro p hp;rfl)) (fun p _=>an rfl) (by simp only[List.length_cons,List.length_nil];omega) (fun v40 L40 FM=>?_)
    obtain⟨anR,anH,arK⟩:=FM.form
    subst arK
    refine iS sB [[2],[6],[2],[6]]<|zD 1<|aN 15 fun CL CX Dp=>jd 1 [4]<|eO Dp<|zD 2<|ja ((i:Int)+1) (by omega)<|zD 2<|bO mo (⟨i+1,(.slice anR ((p0++[(⟨xn,xl⟩:ah)])).length anH),L40,(p0++[(⟨xn,xl⟩:ah)]),w1,L1,p1⟩) ⟨by simp only[List.length_append,List.length_cons,List.length_nil];omega,FM,hJ.2.2⟩ (by dsimp only;omega) [3,4,0,5,6,7] (Sub.refl _)
   refine jn fun b9=>jd 11 [0,5,0,5,0]<|jd 4 [2,0]<|aN 12 fun ahq ahP hL6=>jn fun b39=>bC hL6 [1,2,3,4,5,6,7]<|aN 13 fun ahp ahO Sw=>ku (sz:=2) (ps:=p1) (qs:=[(⟨xn,xl⟩:ah)]) (enc:=cI) (w:= .slice (some ⟨b39,0,none⟩) 1 1) [5] [0] [(b39,.cells ⟨([(⟨xn,xl⟩:ah)].map cI).flatten⟩ 70 (0,0))] (hJ.2.2) (fun s _ hZ=>bX [(⟨xn,xl⟩:ah)] (hZ _ (.head _)) (by intro p hp;rfl)) (fun p _=>an rfl) (by simp only[List.length_cons,List.length_nil];omega) (fun v40 L40 FM=>?_)
   obtain⟨anR,anH,arK⟩:=FM.form
   subst arK
   refine iS Sw [[2],[6],[2],[6]]<|zD 1<|aN 15 fun Za ZO hL8=>jd 1 [4]<|eO hL8<|zD 2<|ja ((i:Int)+1) (by omega)<|zD 2<|bO mo (⟨i+1,w0,L0,p0,(.slice anR ((p1++[(⟨xn,xl⟩:ah)])).length anH),L40,(p1++[(⟨xn,xl⟩:ah)])⟩) ⟨by simp only[List.length_append,List.length_cons,List.length_nil];omega,hJ.2.1,FM⟩ (by dsimp only;omega) [3,4,5,0,6,7] (Sub.refl _)
  refine zD 2<|bO bM (⟨(seen++[e17.born]),w0,L0,p0,w1,L1,p1⟩) ⟨by dsimp only;omega,hJ.2⟩ cz [0,1,2,3,4,5] (Sub.refl _)
 refine jg 0 [.b WO (ui r1 Hh seen)]<|jd 14 [4]<|ez [1,1,1,0,1,0,0] [] (fun(zz:Nat×Value×Cells×(List ah)×Value×Cells×(List ah))=>[(4,zP b4),(5,zP b5),(44,.slice (some ⟨yP,0,none⟩) 2 2),(45,zI 2),(46,zI (zz.1:Int))]) (fun(zz:Nat×Value×Cells×(List ah)×Value×Cells×(List ah))=>[.b yP (.cells ⟨[zz.2.1,zz.2.2.2.2.1]⟩ 71 (0,0)),.l zz.2.2.1,.l zz.2.2.2.2.2.1,.b b5 (.cells ⟨[.slice (some ⟨yP,0,none⟩) 2 2]⟩ 25 (0,0)),.b b4 (.cells ⟨[zS]⟩ 25 (0,0))]) (fun(zz:Nat×Value×Cells×(List ah)×Value×Cells×(List ah))=>(zz.1≤2∧zz.2.2.2.1.length≤8∧zz.2.2.2.2.2.2.length≤8)∧az zz.2.1 2 70 cI zz.2.2.2.1 zz.2.2.1∧az zz.2.2.2.2.1 2 70 cI zz.2.2.2.2.2.2 zz.2.2.2.2.2.1) (fun(zz:Nat×Value×Cells×(List ah)×Value×Cells×(List ah))=>2-zz.1) (⟨0,w0,L0,p0,w1,L1,p1⟩) ⟨by dsimp only;omega,hI.2⟩ [1,2,3,4,5] ?_
 rintro⟨k,w0,L0,p0,w1,L1,p1⟩ hQ K9 hK9 rest
 dsimp only at hQ
 refine zD 5<|zJ 47 ((k:Int) <2) (fun h8=>?_) fun h8=>?_
 ·
  refine zD 6 ?_
  rcases(show k=0∨k=1 by omega) with hk0|hk0
  ·
   refine jw 46 (zI 0) (show Value.int .i64 (k:Int)= zI 0 by rw[hk0];rfl) ?_
   refine jd 6 [0]<|jc (vs:=[w0,.func (.func 176) ⟨[]⟩ ⟨[]⟩]) [1] (aeP hQ.2.1 (by omega)) ?_
   rintro aKG Y51 ⟨ano,aqH,aqR⟩
   refine zD 5 ?_
   have hle:=aqH.length_eq
   exact bO hK9 (⟨1,w0,Y51,ano,w1,L1,p1⟩) ⟨by dsimp only;omega,aqR,hQ.2.2⟩ (by dsimp only;omega) [1,0,2,3,4] (Sub.refl _)
  refine jw 46 (zI 1) (show Value.int .i64 (k:Int)= zI 1 by rw[hk0];rfl) ?_
  refine jd 6 [0]<|jc (vs:=[w1,.func (.func 176) ⟨[]⟩ ⟨[]⟩]) [2] (aeP hQ.2.2 (by omega)) ?_
  rintro aKG Y51 ⟨ano,aqH,aqR⟩
  refine zD 5 ?_
  have hle:=aqH.length_eq
  exact bO hK9 (⟨2,w0,L0,p0,w1,Y51,ano⟩) ⟨by dsimp only;omega,hQ.2.1,aqR⟩ (by dsimp only;omega) [1,2,0,3,4] (Sub.refl _)
 refine jd 8 [3,4]<|aE q0 (.agg ⟨[.slice (some ⟨yP,0,none⟩) 2 2]⟩) [4] [] [] (Sub.refl _) ⟨_,_,rfl,rfl,_,_,_,rfl⟩
structure Tl where
 a:Option Addr
 n:Nat
 c:Nat
 ea:Option Addr
 en:Nat
 ec:Nat
 r:Nat
abbrev afs(t:Tl):List Value:=[.slice t.a t.n t.c,.slice t.ea t.en t.ec,.map (some t.r)]
structure TrD where
 ways:List Int
 g:aj→aj
def aSX(ro:Nat→Option Obj)(r:Nat)(H:List aj)(g:aj→aj):Prop:=∃es ck F,ro r=some (.map es ck)∧sO ox F es ck∧(∀h∈H,h∈F.map (·.1))∧∀y∈F,bI ro y.2 3 cw [g y.1]
def TrR(H:List aj)(ro:Nat→Option Obj)(t:Tl)(x:TrD):Prop:=bI ro (.slice t.a t.n t.c) 1 cJ x.ways∧aSX ro t.r H x.g
def TrO(H:List aj)(LL:Cells)(t:Tl)(x:TrD):Prop:=∀aK,Knows aK LL→TrR H aK t x
abbrev akw(H:List aj)(L:List TrD):(Nat→Option Obj)→Nat→List Value→Cells→Prop:=fun _ k vs LL=>∃x t,L[k]?=some x∧vs=[.agg ⟨afs t⟩]∧TrO H LL t x
def an1(S:List (List ah))(l:List aL)(i:Nat):TrD:=⟨[(i:Int)],match l[i]? with
 |some c=>ya S c
 |none=>id⟩
def cP(S:List (List ah)):List (List aL)→List TrD
 | []=>[⟨[],id⟩]
 |l::_=>(List.range l.length).map (an1 S l)
theorem H0{S:List (List ah)}{l:List aL}{i:Nat}{c:aL}(h:l[i]?=some c):(cP S [l])[i]?=some ⟨[(i:Int)],ya S c⟩:=by
 have hi:=(List.getElem?_eq_some_iff.1 h).1
 simp only[cP,List.getElem?_map,List.getElem?_range hi,Option.map_some,an1,h]
structure xL(ways:List (List aL)):Prop where
 one:ways.length≤1
 ok:∀l∈ways,(1≤l.length∧l.length≤3)∧∀c∈l,iR c
theorem aDZ{c:aL}(h:iR c):1≤c.k∧c.k≤7:=by
 simp only[iR,List.mem_cons,List.not_mem_nil,or_false] at h
 rcases h with rfl|rfl|rfl|rfl|rfl<;>simp
theorem amM{x:aj}:∀(u:List (aj×aj)) (y:aj),u.foldl (fun y p=>if x=p.1 then p.2 else y) y=y∨∃p∈u,u.foldl (fun y p=>if x=p.1 then p.2 else y) y=p.2
 | [],y=> .inl rfl
 |p::u,y=>by
  simp only[List.foldl_cons]
  rcases amM (x:=x) u (if x=p.1 then p.2 else y) with h| ⟨q,hq,h⟩
  ·rw[h]
   split
   ·exact .inr ⟨p,by simp,rfl⟩
   exact .inl rfl
  exact .inr ⟨q,by simp[hq],h⟩
theorem asS{u:List (aj×aj)}{x:aj}:gU u x=x∨∃p∈u,gU u x=p.2:=amM u x
theorem abp{S:List (List ah)}{c:aL}(hc:iR c){x:aj}(hx:x.h=0∨x.h=1):(ya S c x).h=0∨(ya S c x).h=1:=by
 rcases asS (u:=as4 S c) (x:=x) with h| ⟨p,hp,h⟩
 ·rw[ya,h];exact hx
 rw[ya,h]
 simp only[iR,List.mem_cons,List.not_mem_nil,or_false] at hc
 rcases hc with rfl|rfl|rfl|rfl|rfl<;>simp[as4,ZI,H9,IQ,Hq,mg] at hp
 ·obtain⟨_,_,_,_,_,rfl⟩:=hp;exact .inl rfl
 ·obtain⟨_,_,rfl⟩:=hp;exact .inl rfl
 ·obtain⟨_,_,_,_,_,rfl⟩:=hp;exact .inr rfl
 ·obtain⟨_,_,rfl⟩:=hp;exact .inr rfl
 obtain⟨_,_,rfl⟩:=hp;exact .inl rfl
theorem Oh{S:List (List ah)}(hO:eP S){x:aj}(hx:x∈bx S):x.h=0∨x.h=1:=by
 obtain⟨j,l,p,h1,_,_,rfl⟩:=DY.1 hx
 have:=hO.two
 simp only[mg];omega
theorem PG.up{ro:Nat→Option Obj}{r:Nat}{H:List aj}{g:aj→aj}{es:Array MapEntry}{F:List (aj×Value)}(h:PG ro r H g es ck F)(hs:Sub ro aK):PG aK r H g es ck F:=⟨hs _ _ h.m,h.e,h.k,fun x hx=>(h.v x hx).up hs⟩
theorem aRK{v:Value}{S:List (List ah)}{c:aL}{ro:Nat→Option Obj}(hc:iR c)(hS:cL ro v S)(hO:eP S):eo zT 168 [.agg ⟨[v]⟩,.agg ⟨mw c⟩] ro [] (fun r Y=>∃rm F LM Z,r= .tuple ⟨[.map (some rm),zI 0]⟩∧Y=LM++Z∧jH rm ox F LM∧F.map (·.1)=bx S∧MV Z F (ya S c)):=by
 simp only[iR,List.mem_cons,List.not_mem_nil,or_false] at hc
 rcases hc with rfl|rfl|rfl|rfl|rfl
 ·exact aDD hS hO
 ·exact aDC hS hO
 ·exact aDB hS hO
 ·exact aDA hS hO
 exact aDz hS hO
def HV(ro:Nat→Option Obj)(b:Nat)(S:List (List ah))(ways:List (List aL)):Prop:=∃vS vT vH fa fc,ro b=some (.cells ⟨[vS,vT,.slice fa 0 fc,vH]⟩ 177 (0,0))∧cL ro vS S∧nu ro vT ways∧bI ro vH 3 cw (bx S)
theorem HV.up{ro:Nat→Option Obj}{S:List (List ah)}(h:HV ro b S ways)(hs:Sub ro aK):HV aK b S ways:=by
 obtain⟨vS,vT,vH,fa,fc,h1,h2,h3,h4⟩:=h
 exact⟨vS,vT,vH,fa,fc,hs _ _ h1,h2.up hs,h3.up hs,h4.up hs⟩
theorem asY{fa:Option Addr}{S:List (List ah)}{ro:Nat→Option Obj}(hS:cL ro vS S)(hO:eP S)(hT:nu ro vT ways)(hW:xL ways):eo zT 117 [.agg ⟨[vS,vT,.slice fa 0 fc]⟩] ro [] (fun r Y=>∃b vH LH,r= .tuple ⟨[zP b,zI 0]⟩∧Y=(b,.cells ⟨[vS,vT,.slice fa 0 fc,vH]⟩ 177 (0,0))::LH∧az vH 3 144 cw (bx S) LH):=by
 have xB:=hS
 obtain⟨iL,hs,fF⟩:=hS
 obtain⟨mB,Uh,Uf,lP,rfl,Ug,Nh,Ng⟩:=hs
 obtain⟨jB,ht,fu⟩:=id hT
 obtain⟨eT,AM,AJ,dY,rfl,AK,sS,sR⟩:=ht
 have HG:=fF.len
 have D6:=fu.len
 have HC:=hO.two
 have zu:=hW.one
 have PQ:∀(i:Nat) (p:ei),([]:List ei)[i]?=some p→cg ⟨ro,[]⟩ 0 (0+i*6) 6 (n5 p):=fun _ _ h=>oG h
 refine bA au [] [] bn<|zD 2<|jn fun b1=>jd 8 [0]<|jp (vs:=[.agg ⟨[.slice mB iL.length lP]⟩]) [] [] (fun aA hs hZ=>asX (xB.up hs) hO)<|jd 17 [0]<|zJ 21 ((jB.length:Int)>3) (fun h1=>?_) fun h1=>?_
 ·
  exfalso;omega
 refine jd 11 [0]<|ez [1,1,1,0,1,0,0] [] (fun(zz:Nat)=>[(1,zP b1),(23,.slice eT jB.length dY),(24,zI (jB.length:Int)),(25,zI (zz:Int))]) (fun(zz:Nat)=>[.b b1 (.cells ⟨[.slice mB iL.length lP,.slice eT jB.length dY,.slice fa 0 fc]⟩ 29 (0,0))]) (fun(zz:Nat)=>zz≤jB.length) (fun(zz:Nat)=>jB.length-zz) 0 (by omega) [0] ?_
 rintro k hI K1 bM rest
 refine zD 5<|zJ 26 ((k:Int) <(jB.length:Int)) (fun h2=>?_) fun h2=>?_
 ·
  refine zD 6 ?_
  obtain⟨x27,HB⟩:=zG jB k
  refine ij dY 1 sS HB ?_
  obtain⟨l28,aOt,XZ⟩:=fu.get HB
  obtain aq3:=hW.ok _ (List.mem_of_getElem? aOt)
  obtain⟨aw8,aZ1,aZZ,aoR,rfl,aZ0,aLg,aLf⟩:=XZ
  refine jl 0 (sR _ _ HB)<|jn fun b6=>jd 10 [0,0]<|zJ 32 ((l28.length:Int)=0) (fun h3=>?_) fun h3=>?_
  ·
   exfalso;omega
  refine jd 10 [0]<|zJ 36 ((l28.length:Int)>3) (fun h4=>?_) fun h4=>?_
  ·
   exfalso;omega
  refine jd 10 [0]<|ez [1,1,1,0,1,0,0,1,1,0,0,1,1,1,1,0,0] [K1] (fun(zz:Nat)=>[(1,zP b1),(23,.slice eT jB.length dY),(24,zI (jB.length:Int)),(25,zI (k:Int)),(38,.slice aw8 l28.length aoR),(39,zI (l28.length:Int)),(40,zI (zz:Int))]) (fun(zz:Nat)=>[.b b6 (.cells ⟨[.slice aw8 l28.length aoR]⟩ 78 (0,0)),.b b1 (.cells ⟨[.slice mB iL.length lP,.slice eT jB.length dY,.slice fa 0 fc]⟩ 29 (0,0))]) (fun(zz:Nat)=>zz≤l28.length) (fun(zz:Nat)=>l28.length-zz) 0 (by omega) [0,1] ?_
  rintro i hJ K2 mo rest
  refine zD 5<|zJ 41 ((i:Int) <(l28.length:Int)) (fun h5=>?_) fun h5=>?_
  ·
   refine zD 6 ?_
   obtain⟨x42,RJ⟩:=zG l28 i
   refine ij aoR 7 aLg RJ<|jl 0 (aLf _ _ RJ)<|jn fun b8=>jd 3 [0] ?_
   have Vq:=aDZ (aq3.2 _ (List.mem_of_getElem? RJ))
   refine jd 3 [0]<|jp (vs:=[zI x42.k,zI 1,zI 7]) [] [] (fun aA hs hZ=>z0)<|zD 2<|js 47 (!(iH x42.k 1 7)) (fun h6=>?_) (fun h6=>?_)
   ·
    try simp only[zB] at h6
    exfalso;simp only[iH,Bool.and_eq_false_iff,decide_eq_false_iff_not] at h6;omega
   try simp only[zB] at h6
   refine zD 3<|ja ((i:Int)+1) (by omega)<|zD 2<|bO mo (i+1) (by omega) (by omega) [1,2] (Sub.refl _)
  refine zD 3<|ja ((k:Int)+1) (by omega)<|zD 2<|bO bM (k+1) (by omega) (by omega) [1] (Sub.refl _)
 refine jd 17 [0,0,0]<|aN 3 fun sW sZ rD=>jc (vs:=[.agg ⟨[.slice mB iL.length lP]⟩]) [] (Vz xB hO) ?_
 rintro v57 L57 ajE
 obtain⟨anN,anD,arH⟩:=ajE.form
 subst arH
 refine bC rD [1]<|zD 1<|aN 5 fun uv uw sB=>jn fun b59=>bC sB [1,2]<|jd 11 [2]<|ez [1,1,1,1,1,1,0,1,0,0] [] (fun(zz:Nat)=>[(1,zP b1),(9,zP b59),(61,.slice fa 0 fc),(62,zI 0),(63,zI 0)]) (fun(zz:Nat)=>[.b b59 (.cells ⟨[.slice mB iL.length lP,.slice eT jB.length dY,.slice fa 0 fc,(.slice anN (bx S).length anD)]⟩ 177 (0,0)),.l L57,.b b1 (.cells ⟨[.slice mB iL.length lP,.slice eT jB.length dY,.slice fa 0 fc]⟩ 29 (0,0))]) (fun(zz:Nat)=>True) (fun(zz:Nat)=>zz) 0 trivial [0,1,2] ?_
 rintro z hQ K5 hK5 rest
 refine zD 14<|aE q0 (.tuple ⟨[zP b59,zI 0]⟩) [] [0,1] ((b59,.cells ⟨[.slice mB iL.length lP,.slice eT jB.length dY,.slice fa 0 fc,(.slice anN (bx S).length anD)]⟩ 177 (0,0))::L57) (Sub.refl _) ⟨_,_,rfl,rfl,_,_,_,rfl,rfl,ajE⟩
structure YF(ro:Nat→Option Obj)(bl b b1 b2 b3:Nat):Prop where
 t:ro b1=some (.cells ⟨[zP b]⟩ 172 (0,0))
 y:ro b2=some (.cells ⟨[.func (.yield bl) #[] #[]]⟩ 258 (0,0))
 g:ro b3=some (.cells ⟨[.func (.func 166) ⟨[]⟩ ⟨[zP b1,zP b2,zP b3]⟩]⟩ 258 (0,0))
theorem YF.up{ro:Nat→Option Obj}(h:YF ro bl b b1 b2 b3)(hs:Sub ro aK):YF aK bl b b1 b2 b3:=⟨hs _ _ h.t,hs _ _ h.y,hs _ _ h.g⟩
theorem aDx{t:Tl}{S:List (List ah)}{ro:Nat→Option Obj}(Hc:HV ro b S ways):dz zT 167 [zP b,.agg ⟨[.slice t.a t.n t.c,.slice t.ea t.en t.ec,(.map (some t.r))]⟩] ro (.bool true):=by
 obtain⟨vS,vT,vH,fa,fc,gb,hS,hT,hHs⟩:=Hc
 have xB:=hS
 obtain⟨iL,hs,fF⟩:=hS
 obtain⟨mB,Uh,Uf,lP,rfl,Ug,Nh,Ng⟩:=hs
 obtain⟨jB,ht,fu⟩:=id hT
 obtain⟨eT,AM,AJ,dY,rfl,AK,sS,sR⟩:=ht
 have HG:=fF.len
 have D6:=fu.len
 have PQ:∀(i:Nat) (p:ei),([]:List ei)[i]?=some p→cg ⟨ro,[]⟩ 0 (0+i*6) 6 (n5 p):=fun _ _ h=>oG h
 refine bA au [] [] bn<|zD 2<|jn fun b3=>zD 9<|jl (b:=b) (off:=0) (m:=4) (vs:=[.slice mB iL.length lP,.slice eT jB.length dY,.slice fa 0 fc,vH]) 2 ⟨_,_,_,.inl gb,rfl⟩<|zD 4<|ez [1,0,1,0,0] [] (fun(zz:Nat)=>[(3,zP b3),(11,.slice fa 0 fc),(12,zI 0),(13,zI 0)]) (fun(zz:Nat)=>[.b b3 (.cells ⟨[.slice t.a t.n t.c,.slice t.ea t.en t.ec,(.map (some t.r))]⟩ 181 (0,0))]) (fun(zz:Nat)=>True) (fun(zz:Nat)=>zz) 0 trivial [0] ?_
 rintro z hI K1 bM rest
 refine zD 12<|aE q0 (.bool true) [] [] [] (Sub.refl _) ⟨_,_,rfl,rfl,rfl,rfl⟩
theorem aeO{ro:Nat→Option Obj}:eo zT 118 [zP b] ro [] (fun r Y=>∃b1,r= .func (.func 165) ⟨[]⟩ ⟨[zP b1]⟩∧Y=[(b1,.cells ⟨[zP b]⟩ 172 (0,0))]):=by
 refine bA au [] [] bn<|zD 2<|jn fun b1=>zD 8<|aE q0 (.func (.func 165) ⟨[]⟩ ⟨[zP b1]⟩) [] [0] [(b1,.cells ⟨[zP b]⟩ 172 (0,0))] (Sub.refl _) ⟨_,_,rfl,rfl,_,rfl,rfl⟩
theorem aeQ{S:List (List ah)}{L:List TrD}{Inv:Nat→Cells→Prop}{t:Tl}{x:TrD}{k:Nat}{LL:Cells}{ro:Nat→Option Obj}(Hc:HV ro b S ways)(hC:YF ro bl b b1 b2 b3)(hn:t.n=ways.length)(hx:L[k]?=some x) (hR:TrO (bx S) LL t x) (hB:Inv k B) (hy:YE zT bl ro L.length (akw (bx S) L) Inv Stop):eo zT 166 [.agg ⟨[.slice t.a t.n t.c,.slice t.ea t.en t.ec,(.map (some t.r))]⟩,zP b1,zP b2,zP b3] ro (LL++B) (fun r Y=>∃c,r= .bool c∧(c=true→Inv (k+1) Y)∧(c=false→Stop Y)):=by
 have aj4:=Hc
 obtain⟨vS,vT,vH,fa,fc,gb,hS,hT,hHs⟩:=Hc
 have xB:=hS
 obtain⟨iL,hs,fF⟩:=hS
 obtain⟨mB,Uh,Uf,lP,rfl,Ug,Nh,Ng⟩:=hs
 obtain⟨jB,ht,fu⟩:=id hT
 obtain⟨eT,AM,AJ,dY,rfl,AK,sS,sR⟩:=ht
 have HG:=fF.len
 have D6:=fu.len
 have PQ:∀(i:Nat) (p:ei),([]:List ei)[i]?=some p→cg ⟨ro,[]⟩ 0 (0+i*6) 6 (n5 p):=fun _ _ h=>oG h
 refine bA au [.l LL,.l B] [] bn<|zD 2<|jn fun b4=>jd 13 [0]<|jl (b:=b1) (off:=0) (m:=1) (vs:=[zP b]) 0 ⟨_,_,_,.inl hC.t,rfl⟩<|zD 3<|jl (b:=b) (off:=0) (m:=4) (vs:=[.slice mB iL.length lP,.slice eT jB.length dY,.slice fa 0 fc,vH]) 1 ⟨_,_,_,.inl gb,rfl⟩<|zD 3<|zJ 21 ((t.n:Int)=(jB.length:Int)) (fun h1=>?_) fun h1=>?_
 ·
  refine zD 3<|jl (b:=b1) (off:=0) (m:=1) (vs:=[zP b]) 0 ⟨_,_,_,.inl hC.t,rfl⟩<|jd 1 [0]<|jp (vs:=[zP b,.agg ⟨[.slice t.a t.n t.c,.slice t.ea t.en t.ec,(.map (some t.r))]⟩]) [] [] (fun aA hs hZ=>aDx (t:=t) (aj4.up hs))<|zD 2<|jl (b:=b2) (off:=0) (m:=1) (vs:=[(.func (.yield bl) #[] #[])]) 0 ⟨_,_,_,.inl hC.y,rfl⟩<|jd 1 [0]<|jyc [1,2] (hy k [.agg ⟨[.slice t.a t.n t.c,.slice t.ea t.en t.ec,(.map (some t.r))]⟩] LL B ro (List.getElem?_eq_some_iff.1 hx).1 ⟨x,t,hx,rfl,hR⟩ hB (Sub.refl _)) (Sub.refl _) ?_
  intro v29 Y29 aMY
  obtain⟨c29,rfl,aPD,aPq⟩:=yb aMY
  refine zD 4<|aE q0 (.bool c29) [] [0] Y29 (Sub.refl _) ⟨_,_,rfl,rfl,_,rfl,aPD,aPq⟩
 exfalso;omega
theorem aRG{S:List (List ah)}{l:List aL}{Inv:Nat→Cells→Prop}{ea:Option Addr}{r0:Nat}{es0:Array MapEntry}{F0:List (aj×Value)}{ro:Nat→Option Obj}(Hc:HV ro b S [l])(hO:eP S)(hW:xL [l])(hC:YF ro bl b b1 b2 b3)(hE:∀aK,Knows aK LE→cL aK (.slice ea en ec) S)(hE0:sO ox F0 es0 ck0)(hk0:F0.map (·.1)=bx S)(hM0:MV Z F0 id)(hB:Inv 0 B)(hy:YE zT bl ro (cP S [l]).length (akw (bx S) (cP S [l])) Inv Stop):eo zT 166 [.agg ⟨[zS,.slice ea en ec,(.map (some r0))]⟩,zP b1,zP b2,zP b3] ro (LE++(r0,.map es0 ck0)::(Z++B)) (fun r Y=>∃c,r= .bool c∧(c=true→Inv l.length Y)∧(c=false→Stop Y)):=by
 have aj4:=Hc
 obtain⟨vS,vT,vH,fa,fc,gb,hS,hT,hHs⟩:=Hc
 have xB:=hS
 obtain⟨iL,hs,fF⟩:=hS
 obtain⟨w1,w2,rfl⟩:=pw (fF.len.trans hO.two)
 obtain⟨mB,Uh,Uf,lP,rfl,Ug,Nh,Ng⟩:=hs
 obtain⟨jB,ht,fu⟩:=id hT
 obtain⟨eT,AM,AJ,dY,rfl,AK,sS,sR⟩:=ht
 have D6:=fu.len
 have PQ:∀(i:Nat) (p:ei),([]:List ei)[i]?=some p→cg ⟨ro,[]⟩ 0 (0+i*6) 6 (n5 p):=fun _ _ h=>oG h
 refine bA au [.l LE,.b r0 (.map es0 ck0),.l Z,.l B] [] bn<|zD 2<|jn fun b4=>zD 1<|jf [1,2,3] (LE++((r0,.map es0 ck0)::Z)) (fun AI bV iT=>?_)
 have hE1:=hE _ (Knows.left iT)
 have Hd:PG AI r0 (bx S) id es0 ck0 F0:=⟨Knows.right iT _ (.head _),hE0,hk0,hM0 _ (Knows.tail (Knows.right iT))⟩
 refine jd 12 [0]<|jl (b:=b1) (off:=0) (m:=1) (vs:=[zP b]) 0 ⟨_,_,_,.inl (bV _ _ hC.t),rfl⟩<|zD 3<|jl (b:=b) (off:=0) (m:=4) (vs:=[.slice mB 2 lP,.slice eT jB.length dY,.slice fa 0 fc,vH]) 1 ⟨_,_,_,.inl (bV _ _ gb),rfl⟩<|zD 3<|zJ 21 (0=(jB.length:Int)) (fun h4=>?_) fun h4=>?_
 ·
  exfalso;simp at D6;omega
 refine zD 4 ?_
 have XL:jB.length=1:=D6
 refine zD 1<|jl (b:=b1) (off:=0) (m:=1) (vs:=[zP b]) 0 ⟨_,_,_,.inl (bV _ _ hC.t),rfl⟩<|zD 3<|jl (b:=b) (off:=0) (m:=4) (vs:=[.slice mB 2 lP,.slice eT jB.length dY,.slice fa 0 fc,vH]) 1 ⟨_,_,_,.inl (bV _ _ gb),rfl⟩<|zD 1 ?_
 obtain⟨x37,Xw⟩:=zG jB 0
 refine ij dY 1 sS Xw<|zD 1 ?_
 obtain⟨l39,azH,Y0⟩:=fu.get Xw
 obtain aOm:=hW.ok _ (List.mem_of_getElem? azH)
 obtain adJ:l39=l:=Option.some.inj (azH.symm.trans rfl)
 obtain⟨aLa,aZU,aZS,aw2,rfl,aZT,aK9,aK8⟩:=Y0
 refine jl 0 ((sR _ _ Xw).ext (tO bV))<|zD 4<|ez [1,1,1,0,1,0,0] [] (fun(zz:Nat×Cells)=>[(1,zP b1),(3,zP b3),(4,zP b4),(39,.slice aLa l39.length aw2),(40,zI (l39.length:Int)),(41,zI (zz.1:Int))]) (fun(zz:Nat×Cells)=>[.l zz.2,.b b4 (.cells ⟨[zS,.slice ea en ec,(.map (some r0))]⟩ 181 (0,0))]) (fun(zz:Nat×Cells)=>zz.1≤l39.length∧Inv zz.1 zz.2) (fun(zz:Nat×Cells)=>l39.length-zz.1) (⟨0,B⟩) ⟨by dsimp only;omega,hB⟩ [1,0] ?_
 rintro⟨i,B⟩ hI K1 bM rest
 dsimp only at hI
 refine zD 5<|zJ 42 ((i:Int) <(l39.length:Int)) (fun h5=>?_) fun h5=>?_
 ·
  refine zD 7 ?_
  obtain⟨Wc,HA⟩:=zG l39 i
  refine ij aw2 7 aK9 HA<|jl 0 ((aK8 _ _ HA).ext (tO bV))<|jn fun b8=>jd 4 [0] ?_
  have hco:=aOm.2 _ (List.mem_of_getElem? HA)
  refine jd 4 [2,0]<|jc (vs:=[.agg ⟨[.slice ea en ec]⟩,.agg ⟨[zI Wc.k,zI Wc.st,zI Wc.ot,zI Wc.fn,zI Wc.fl,zI Wc.tn,zI Wc.tl]⟩]) [] (aRK (c:=Wc) hco (hE1.up (Sub.refl _)) hO) ?_
  rintro _ _ ⟨r9,F9,LM9,Z9,rfl,rfl,hm9,hk9,hM9⟩
  obtain⟨es9,ck9,rfl,hE9⟩:=hm9
  refine jg 0 [.b r9 (.map es9 ck9),.l Z9]<|zD 5<|jf [0,1] ((r9,.map es9 ck9)::Z9) (fun ro8 yh hk7=>?_)
  have hP2:PG ro8 r9 (bx S) (ya S Wc) es9 ck9 F9:=⟨hk7 _ (.head _),hE9,hk9,hM9 _ (Knows.tail hk7)⟩
  refine zD 11<|jl (b:=b3) (off:=0) (m:=1) (vs:=[.func (.func 166) ⟨[]⟩ ⟨[zP b1,zP b2,zP b3]⟩]) 0 ⟨_,_,_,.inl (yh _ _ (bV _ _ hC.g)),rfl⟩<|jd 4 [2]<|jl (b:=b1) (off:=0) (m:=1) (vs:=[zP b]) 0 ⟨_,_,_,.inl (yh _ _ (bV _ _ hC.t)),rfl⟩<|zD 4<|jl (b:=b) (off:=0) (m:=4) (vs:=[.slice mB 2 lP,.slice eT jB.length dY,.slice fa 0 fc,vH]) 0 ⟨_,_,_,.inl (yh _ _ (bV _ _ gb)),rfl⟩<|jd 4 [2]<|m8 [3,5] ⟨fun z2 t3 sB=>?_,fun z5 t6 Sw=>?_,trivial⟩
  ·
   refine jc (vs:=[zS]) [] (aDE (bI.nil _ _ _ _ _) (by simp)) ?_
   rintro v58 L58 adh
   obtain⟨ahI,ahE,Sd⟩:=adh.form
   subst Sd
   refine bC sB [1,2,3]<|aN 5 fun Za ZO hL8=>jn fun b60=>bC hL8 [1,2,3,4]<|aN 6 fun Y6 ZN XU=>ku (sz:=1) (ps:=([]:List Int)) (qs:=[(i:Int)]) (enc:=cJ) (w:= .slice (some ⟨b60,0,none⟩) 1 1) [1] [0] [(b60,.cells ⟨([(i:Int)].map cJ).flatten⟩ 3 (0,0))] (adh) (fun s _ hZ=>bX [(i:Int)] (hZ _ (.head _)) (by intro p hp;rfl)) (fun p _=>an rfl) (by simp only[List.length_cons,List.length_nil];omega) (fun v61 L61 FJ=>?_)
   obtain⟨ZC,Zv,arG⟩:=FJ.form
   subst arG
   refine iS XU [[4],[],[],[]]<|aN 15 fun HY H4 yt=>jc (vs:=[(.map (some r9)),zI 2]) [] (aeV (hP2.up (Sub.refl _)) (tM hO) (fun x hx=>abp hco (Oh hO (by rw[←hk9];exact List.mem_map_of_mem (f:=(·.1)) hx)))) ?_
   rintro _ L70 ⟨a70,n70,c70,rfl⟩
   refine bC yt [1,2,3,4,5]<|aN 19 fun Mu ML F6=>jc (vs:=[(.map (some r0)),(.map (some r9))]) [] (amN (Hd.up yh) (hP2.up (Sub.refl _))) ?_
   rintro _ _ ⟨r74,F74,aS2,Z74,rfl,rfl,aq2,arp,asf⟩
   obtain⟨Le,Ls,rfl,asF⟩:=aq2
   refine jg 0 [.b r74 (.map Le Ls),.l Z74]<|bC F6 [2,3,4,5,6,7]<|zD 1<|aN 21 fun Tx TN F5=>jc (vs:=[.agg ⟨[(.slice ZC ((([]:List Int)++[(i:Int)])).length Zv),.slice a70 n70 c70,(.map (some r74))]⟩,zP b1,zP b2,zP b3]) [3,0,1,6] ((show eo _ _ _ _ (L61++(r74,.map Le Ls)::(Z74++B)) _ from by have:=aeQ (t:=⟨ZC,((([]:List Int)++[(i:Int)])).length,Zv,a70,n70,c70,r74⟩) (LL:=L61++(r74,.map Le Ls)::Z74) (aj4.up (bV.trans yh)) (hC.up (bV.trans yh)) rfl (H0 (by rw[←adJ];exact HA)) (fun aK hk=>⟨by simpa using FJ.ma (Knows.left hk),Le,Ls,F74,(Knows.right hk) _ (.head _),asF,arp,fun y hy=>asf aK (Knows.tail (Knows.right hk)) y hy⟩) hI.2 (hy.up (bV.trans yh));rwa[List.append_assoc,List.cons_append] at this)) ?_
   rintro _ Y76 ⟨c76,rfl,ar0,arU⟩
   refine iS F5 [[],[]]<|zD 2<|js 77 (!c76) (fun Ga=>?_) (fun Ga=>?_)
   ·
    try simp only[zB] at Ga
    refine zD 6<|aE q0.a.a (.bool false) [] [0] Y76 (bV.trans yh) ⟨_,_,rfl,rfl,_,rfl,nofun,fun _=>arU (by simp_all)⟩
   try simp only[zB] at Ga
   refine zD 3<|ja ((i:Int)+1) (by omega)<|zD 2<|bO bM (⟨i+1,Y76⟩) ⟨by dsimp only;omega,ar0 (by simp_all)⟩ (by dsimp only;omega) [0,4] yh
  refine jn fun b60=>bC Sw [1,2,3]<|aN 3 fun ak9 alp KU=>jc (vs:=[zS]) [] (aDE (bI.nil _ _ _ _ _) (by simp)) ?_
  rintro v58 L58 adh
  obtain⟨ahI,ahE,Sd⟩:=adh.form
  subst Sd
  refine bC KU [1,2,3,4]<|aN 6 fun au6 avZ asy=>ku (sz:=1) (ps:=([]:List Int)) (qs:=[(i:Int)]) (enc:=cJ) (w:= .slice (some ⟨b60,0,none⟩) 1 1) [0] [1] [(b60,.cells ⟨([(i:Int)].map cJ).flatten⟩ 3 (0,0))] (adh) (fun s _ hZ=>bX [(i:Int)] (hZ _ (.head _)) (by intro p hp;rfl)) (fun p _=>an rfl) (by simp only[List.length_cons,List.length_nil];omega) (fun v61 L61 FJ=>?_)
  obtain⟨ZC,Zv,arG⟩:=FJ.form
  subst arG
  refine iS asy [[4],[],[],[]]<|aN 15 fun aTM aUy asx=>jc (vs:=[(.map (some r9)),zI 2]) [] (aeV (hP2.up (Sub.refl _)) (tM hO) (fun x hx=>abp hco (Oh hO (by rw[←hk9];exact List.mem_map_of_mem (f:=(·.1)) hx)))) ?_
  rintro _ L70 ⟨a70,n70,c70,rfl⟩
  refine bC asx [1,2,3,4,5]<|aN 19 fun aTL aUx OM=>jc (vs:=[(.map (some r0)),(.map (some r9))]) [] (amN (Hd.up yh) (hP2.up (Sub.refl _))) ?_
  rintro _ _ ⟨r74,F74,aS2,Z74,rfl,rfl,aq2,arp,asf⟩
  obtain⟨Le,Ls,rfl,asF⟩:=aq2
  refine jg 0 [.b r74 (.map Le Ls),.l Z74]<|bC OM [2,3,4,5,6,7]<|zD 1<|aN 21 fun ak8 alo KT=>jc (vs:=[.agg ⟨[(.slice ZC ((([]:List Int)++[(i:Int)])).length Zv),.slice a70 n70 c70,(.map (some r74))]⟩,zP b1,zP b2,zP b3]) [3,0,1,6] ((show eo _ _ _ _ (L61++(r74,.map Le Ls)::(Z74++B)) _ from by have:=aeQ (t:=⟨ZC,((([]:List Int)++[(i:Int)])).length,Zv,a70,n70,c70,r74⟩) (LL:=L61++(r74,.map Le Ls)::Z74) (aj4.up (bV.trans yh)) (hC.up (bV.trans yh)) rfl (H0 (by rw[←adJ];exact HA)) (fun aK hk=>⟨by simpa using FJ.ma (Knows.left hk),Le,Ls,F74,(Knows.right hk) _ (.head _),asF,arp,fun y hy=>asf aK (Knows.tail (Knows.right hk)) y hy⟩) hI.2 (hy.up (bV.trans yh));rwa[List.append_assoc,List.cons_append] at this)) ?_
  rintro _ Y76 ⟨c76,rfl,ar0,arU⟩
  refine iS KT [[],[]]<|zD 2<|js 77 (!c76) (fun I6=>?_) (fun I6=>?_)
  ·
   try simp only[zB] at I6
   refine zD 6<|aE q0.a.a (.bool false) [] [0] Y76 (bV.trans yh) ⟨_,_,rfl,rfl,_,rfl,nofun,fun _=>arU (by simp_all)⟩
  try simp only[zB] at I6
  refine zD 3<|ja ((i:Int)+1) (by omega)<|zD 2<|bO bM (⟨i+1,Y76⟩) ⟨by dsimp only;omega,ar0 (by simp_all)⟩ (by dsimp only;omega) [0,4] yh
 refine zD 7<|aE q0.a (.bool true) [] [0] B bV ⟨_,_,rfl,rfl,_,rfl,(fun _=>by have:=hI.2;rwa[show i=l.length by rw[←adJ];omega] at this),nofun⟩
theorem aDw{S:List (List ah)}{Inv:Nat→Cells→Prop}{ea:Option Addr}{r0:Nat}{es0:Array MapEntry}{F0:List (aj×Value)}{ro:Nat→Option Obj}(Hc:HV ro b S ways)(hO:eP S)(hW:xL ways)(hC:YF ro bl b b1 b2 b3)(hE:∀aK,Knows aK LE→cL aK (.slice ea en ec) S)(hE0:sO ox F0 es0 ck0)(hk0:F0.map (·.1)=bx S)(hM0:MV Z F0 id)(hB:Inv 0 B)(hy:YE zT bl ro (cP S ways).length (akw (bx S) (cP S ways)) Inv Stop):
 eo zT 166 [.agg ⟨[zS,.slice ea en ec,.map (some r0)]⟩,zP b1,zP b2,zP b3] ro (LE++(r0,.map es0 ck0)::(Z++B)) (fun r Y=>∃c,r= .bool c∧(c=true→Inv (cP S ways).length Y)∧(c=false→Stop Y)):=by
 match ways,hW with
 | [],_=>
  have:=aeQ (t:=⟨none,0,0,ea,en,ec,r0⟩) (x:=⟨[],id⟩) (k:=0) (LL:=LE++(r0,.map es0 ck0)::Z) Hc hC rfl rfl (fun aK hk=>⟨bI.nil _ _ _ _ _,es0,ck0,F0,(Knows.right hk) _ (.head _),hE0,fun h hh=>by rw[hk0];exact hh,hM0 _ (Knows.tail (Knows.right hk))⟩) hB hy
  rwa[List.append_assoc,List.cons_append] at this
 | [l],hW=>
  refine(aRG Hc hO hW hC hE hE0 hk0 hM0 hB hy).mono fun _ _ ⟨c,h1,h2,h3⟩=>⟨c,h1,fun h=>?_,h3⟩
  rw[show (cP S [l]).length=l.length by simp[cP]]
  exact h2 h
 |_::_::_,hW=>exact absurd hW.one (by simp)
theorem X4{S:List (List ah)}{ro:Nat→Option Obj}(g1:ro b1=some (.cells ⟨[zP b]⟩ 172 (0,0)))(Hc:HV ro b S ways)(hO:eP S)(hW:xL ways):ItX zT 165 [] [zP b1] ro [] (cP S ways).length (akw (bx S) (cP S ways)) (fun Z=>Z=[]):=by
 intro bl aA Inv Stop hs hy B hB
 replace g1:=hs _ _ g1
 replace Hc:=Hc.up hs
 have aQg:=Hc
 obtain⟨vS,vT,vH,fa,fc,gb,hS,hT,hHs⟩:=Hc
 have xB:=hS
 obtain⟨iL,oB,fF⟩:=hS
 obtain⟨ah9,aZE,aZA,ah8,rfl,aZC,aZD,aZB⟩:=oB
 obtain⟨jB,ht,fu⟩:=id hT
 obtain⟨eT,AM,AJ,dY,rfl,AK,sS,sR⟩:=ht
 have PQ:∀(i:Nat) (p:ei),([]:List ei)[i]?=some p→cg ⟨aA,[]⟩ 0 (0+i*6) 6 (n5 p):=fun _ _ h=>oG h
 refine bA au [.l B] [] bn<|zD 2<|jn fun b2=>zD 3<|jn fun b3=>jd 5 [0]<|jf [1,0] ((b2,.cells ⟨[(.func (.yield bl) #[] #[])]⟩ 258 (0,0))::[(b3,.cells ⟨[.func (.func 166) ⟨[]⟩ ⟨[zP b1,zP b2,zP b3]⟩]⟩ 258 (0,0))]) fun AI bV iT=>zD 2<|jl (b:=b3) (off:=0) (m:=1) (vs:=[.func (.func 166) ⟨[]⟩ ⟨[zP b1,zP b2,zP b3]⟩]) 0 ⟨_,_,_,.inl (iT _ (.tail _ (.head _))),rfl⟩<|jl (b:=b1) (off:=0) (m:=1) (vs:=[zP b]) 0 ⟨_,_,_,.inl (bV _ _ g1),rfl⟩<|zD 3<|jl (b:=b) (off:=0) (m:=4) (vs:=[.slice ah9 iL.length ah8,.slice eT jB.length dY,.slice fa 0 fc,vH]) 0 ⟨_,_,_,.inl (bV _ _ gb),rfl⟩<|jl (b:=b1) (off:=0) (m:=1) (vs:=[zP b]) 0 ⟨_,_,_,.inl (bV _ _ g1),rfl⟩<|zD 3<|jl (b:=b) (off:=0) (m:=4) (vs:=[.slice ah9 iL.length ah8,.slice eT jB.length dY,.slice fa 0 fc,vH]) 0 ⟨_,_,_,.inl (bV _ _ gb),rfl⟩<|aN 6 fun CN CZ AQ=>jc (vs:=[.agg ⟨[.slice ah9 iL.length ah8]⟩]) [] (ako (xB.up bV) hO) ?_
 rintro _ L11 ⟨a11,n11,c11,rfl,aQ8⟩
 refine bC AQ [1]<|aN 12 fun CM CY BG=>jc (vs:=[.agg ⟨[.slice ah9 iL.length ah8]⟩]) [] (I9 (xB.up bV) hO) ?_
 rintro _ _ ⟨r17,F17,bez,Z17,rfl,rfl,aq5,XO,aQq⟩
 obtain⟨aRX,aSa,rfl,aQ7⟩:=aq5
 refine jg 0 [.b r17 (.map aRX aSa),.l Z17]<|bC BG [2,3]<|zD 1<|aN 14 fun sW sZ rD=>jc (vs:=[.agg ⟨[zS,.slice a11 n11 c11,(.map (some r17))]⟩,zP b1,zP b2,zP b3]) [2,0,1,3] (aDw (aQg.up bV) hO hW ⟨(bV _ _ g1),iT _ (.head _),iT _ (.tail _ (.head _))⟩ aQ8 aQ7 XO aQq hB (YE.up hy bV)) ?_
 rintro _ Y19 ⟨c19,rfl,aPG,aPt⟩
 refine iS rD [[],[]]<|zD 1<|aE q0.a (.tuple ⟨[]⟩) [] [0] Y19 bV ⟨_,_,rfl,rfl,[],Y19,rfl,rfl,by cases c19 with|true=>exact .inl (aPG rfl)|false=>exact .inr (aPt rfl)⟩
theorem Es{S:List (List ah)}(hW:xL ways):(cP S ways).length≤3:=by
 match ways,hW with
 | [],_=>simp[cP]
 |l::_,hW=>
  have:=(hW.ok l (by simp)).1.2
  simpa [cP] using this
theorem aeU{fa:Option Addr}{S:List (List ah)}{ro:Nat→Option Obj}(hS:cL ro vS S)(hO:eP S)(hT:nu ro vT ways)(hW:xL ways):FnG zT 91 [.agg ⟨[vS,vT,.slice fa 0 fc]⟩] ro [] (fun r aA Y=>∃b vl ts Lt Z,r= .tuple ⟨[zP b,vl,zI 0]⟩∧HV aA b S ways∧Y=Lt++Z∧az vl 3 181 afs ts Lt∧ts.length=(cP S ways).length∧∀aK,Knows aK Z→dD (TrR (bx S) aK) ts (cP S ways)):=by
 have xB:=hS
 obtain⟨iL,hs,fF⟩:=hS
 obtain⟨mB,Uh,Uf,lP,rfl,Ug,Nh,Ng⟩:=hs
 obtain⟨jB,ht,fu⟩:=id hT
 obtain⟨eT,AM,AJ,dY,rfl,AK,sS,sR⟩:=ht
 have HG:=fF.len
 have D6:=fu.len
 have HC:=hO.two
 have zu:=hW.one
 have PQ:∀(i:Nat) (p:ei),([]:List ei)[i]?=some p→cg ⟨ro,[]⟩ 0 (0+i*6) 6 (n5 p):=fun _ _ h=>oG h
 refine ayj (hm:=au) [] [] bn<|zD 2<|jn fun b1=>jd 7 [0]<|jc (vs:=[.agg ⟨[.slice mB iL.length lP,.slice eT jB.length dY,.slice fa 0 fc]⟩]) [] (asY xB hO hT hW) ?_
 rintro _ _ ⟨Mq,avy,aES,rfl,rfl,aqT⟩
 refine jg 0 [.b Mq (.cells ⟨[.slice mB iL.length lP,.slice eT jB.length dY,.slice fa 0 fc,avy]⟩ 177 (0,0)),.l aES]<|zD 5<|jf [0,1] ((Mq,.cells ⟨[.slice mB iL.length lP,.slice eT jB.length dY,.slice fa 0 fc,avy]⟩ 177 (0,0))::aES) (fun AI bV iT=>?_)
 have Hc:HV AI Mq S ways:=⟨_,_,_,_,_,iT _ (.head _),xB.up bV,hT.up bV,aqT.ma (Knows.tail iT)⟩
 refine zD 10 ?_
 have hLn:(cP S ways).length≤3:=Es hW
 refine zD 1<|jn fun b7=>zD 5<|jc (vs:=[zP Mq]) [] (aeO) ?_
 rintro _ _ ⟨alU,rfl,rfl⟩
 refine jg 0 [.b alU (.cells ⟨[zP Mq]⟩ 172 (0,0))]<|jf [0] [(alU,.cells ⟨[zP Mq]⟩ 172 (0,0))] fun ro6 kD YU=>zD 2<|pQ<|pQ<|jrf [] (X4 (YU _ (.head _)) (Hc.up kD) hO hW) (by rintro _ _ _ _ ⟨_,_,_,rfl,_⟩;rfl) (fun(zz:Value×Cells×(List Tl)×Cells)=>[.b b7 (.cells ⟨[zz.1]⟩ 173 (0,0)),.l zz.2.1,.l zz.2.2.2]) (fun kk=>(fun(zz:Value×Cells×(List Tl)×Cells)=>az zz.1 3 181 afs zz.2.2.1 zz.2.1∧zz.2.2.1.length=kk∧(∀aK,Knows aK zz.2.2.2→dD (TrR (bx S) aK) zz.2.2.1 ((cP S ways).take kk))∧(cP S ways).length≤3)) (fun jump=>(fun(zz:Value×Cells×(List Tl)×Cells)=>False)) (⟨zS,[],[],[]⟩) ⟨az.nil _ _ _,rfl,fun _ _=> .nil,hLn⟩ [2,0,1] ?_ ?_ ?_
 ·
  rintro bl7 bd7 kk7 vs7 LL7 ⟨vl,Lt,ts,Z⟩ ro7 hk7 aOY hI ry
  obtain⟨x7,t7,hx7,rfl,hR7⟩:=aOY
  dsimp only at hI
  have bP:=(List.getElem?_eq_some_iff.1 hx7).1
  refine zD 1<|jn fun b8=>jd 2 [0]<|aym<|jd 4 [2,0]<|jn fun mD=>ku (sz:=3) (ps:=ts) (qs:=[(⟨t7.a,t7.n,t7.c,t7.ea,t7.en,t7.ec,t7.r⟩:Tl)]) (enc:=afs) (w:= .slice (some ⟨mD,0,none⟩) 1 1) [4] [0] [(mD,.cells ⟨([(⟨t7.a,t7.n,t7.c,t7.ea,t7.en,t7.ec,t7.r⟩:Tl)].map afs).flatten⟩ 181 (0,0))] (hI.1) (fun s _ hZ=>bX [(⟨t7.a,t7.n,t7.c,t7.ea,t7.en,t7.ec,t7.r⟩:Tl)] (hZ _ (.head _)) (by intro p hp;rfl)) (fun p _=>an rfl) (by simp only[List.length_cons,List.length_nil];omega) (fun v23 L23 yl=>?_)
  obtain⟨aI3,aIF,arN⟩:=yl.form
  subst arN
  refine jd 2 [4]<|jyn WQ (Sub.refl _) ⟨(.slice aI3 ((ts++[(⟨t7.a,t7.n,t7.c,t7.ea,t7.en,t7.ec,t7.r⟩:Tl)])).length aIF),L23,(ts++[(⟨t7.a,t7.n,t7.c,t7.ea,t7.en,t7.ec,t7.r⟩:Tl)]),LL7++Z⟩ ⟨yl,by simp only[List.length_append,List.length_cons,List.length_nil];omega,fun aK hk=>wT (hI.2.2.1 aK (Knows.right hk)) hx7 (hR7 aK (Knows.left hk)),hI.2.2.2⟩ [3,4,0,6,5]
 ·
  rintro bd7 ⟨vl,Lt,ts,Z⟩ Z7 hI hZ7
  dsimp only at hI
  subst hZ7
  refine jd 9 [2]<|aMq qm0.a.a.m (.tuple ⟨[zP Mq,vl,zI 0]⟩) [0] [] [2,3] (Lt++Z) (Sub.refl _) ⟨_,_,_,rfl,rfl,(bV.trans kD),Mq,vl,ts,Lt,Z,rfl,Hc.up kD,rfl,hI.1,hI.2.1,by have:=hI.2.2.1;rwa[List.take_of_length_le (Nat.le_refl _)] at this⟩
 rintro bd7 ⟨vl,Lt,ts,Z⟩ Z7 jump hS hZ7
 exact hS.elim
def wv(t:Tl):Value:= .slice t.a t.n t.c
theorem dD.maps{β γ δ:Type}{R:α→β→Prop}{T:γ→δ→Prop}{f:α→γ}{g:β→δ}(h:∀a b,R a b→T (f a) (g b)):∀ {l:List α} {m:List β},dD R l m→dD T (l.map f) (m.map g)
 | [],[],.nil=> .nil
 |_::_,_::_,.cons h1 h2=> .cons (h _ _ h1) (dD.maps h h2)
theorem W6{y:aj}{l:List aj}(h:y∈l):cQ (oF y.h y.n y.l) l 0≥0:=by
 have key:∀(l:List aj) (k:Nat),y∈l→cQ (oF y.h y.n y.l) l k≥0:=by
  intro l
  induction l with
  |nil=>intro k h;cases h
  |cons x l ih=>
   intro k h
   simp only[cQ]
   cases hx:oF y.h y.n y.l x with
   |true=>simp
   |false=>
    simp only[cond_false]
    rcases List.mem_cons.1 h with rfl|h
    ·simp[oF] at hx
    exact ih _ h
 exact key l 0 h
theorem akm{fa:Option Addr}{S:List (List ah)}{ro:Nat→Option Obj}(hS:cL ro vS S)(hO:eP S)(hT:nu ro vT ways)(hW:xL ways):eo zT 85 [.agg ⟨[vS,vT,.slice fa 0 fc]⟩] ro [] (fun r Y=>∃a n c,r= .tuple ⟨[.slice a n c,zI 0]⟩∧n=((cP S ways).map (·.ways)).length∧∀lB,Knows lB Y→agb lB (.slice a n c) ((cP S ways).map (·.ways))):=by
 have xB:=hS
 obtain⟨iL,hs,fF⟩:=hS
 obtain⟨mB,Uh,Uf,lP,rfl,Ug,Nh,Ng⟩:=hs
 obtain⟨jB,ht,fu⟩:=id hT
 obtain⟨eT,AM,AJ,dY,rfl,AK,sS,sR⟩:=ht
 have HG:=fF.len
 have D6:=fu.len
 have HC:=hO.two
 have zu:=hW.one
 have PQ:∀(i:Nat) (p:ei),([]:List ei)[i]?=some p→cg ⟨ro,[]⟩ 0 (0+i*6) 6 (n5 p):=fun _ _ h=>oG h
 have hLn:=Es (S:=S) hW
 refine bA au [] [] bn<|zD 2<|jn fun b1=>jd 6 [0]<|jcG (vs:=[.agg ⟨[.slice mB iL.length lP,.slice eT jB.length dY,.slice fa 0 fc]⟩]) [] (aeU xB hO hT hW) ?_
 rintro _ aA _ bV ⟨jq,vl,ts,Lt,Z,rfl,Hc,rfl,hL,htl,hA⟩
 obtain⟨uS,uT,uH,ua,uc,gb,_,_,hh⟩:=Hc
 obtain⟨dJ,uK,uJ,dr,rfl,wZ,qB,qA⟩:=hh
 obtain⟨aI8,aIK,aPh⟩:=hL.form
 subst aPh
 refine jg 0 [.l Lt,.l Z]<|zD 28<|pQ<|ez [1,1,1,1,0,1,0,0] [] (fun(zz:Nat×Value×Cells)=>[(2,zS),(3,zI 0),(7,zz.2.1),(19,(.slice aI8 ts.length aIK)),(20,zI (ts.length:Int)),(21,zI (zz.1:Int))]) (fun(zz:Nat×Value×Cells)=>[.l zz.2.2,.l Lt,.l Z,.b b1 (.cells ⟨[.slice mB iL.length lP,.slice eT jB.length dY,.slice fa 0 fc]⟩ 29 (0,0))]) (fun(zz:Nat×Value×Cells)=>zz.1≤ts.length∧az zz.2.1 1 22 iQ ((ts.take zz.1).map wv) zz.2.2) (fun(zz:Nat×Value×Cells)=>ts.length-zz.1) (⟨0,zS,[]⟩) ⟨by dsimp only;omega,az.nil _ _ _⟩ [0,1,2,3] ?_
 rintro⟨k,vO,LO⟩ hI K1 bM rest
 dsimp only at hI
 refine zD 5<|zJ 22 ((k:Int) <(ts.length:Int)) (fun h2=>?_) fun h2=>?_
 ·
  refine zD 6 ?_
  obtain⟨uG,sq⟩:=zG ts k
  refine YP 3 hL sq fun b23 aP4=>oJ 0 [1] Lt (fun s _ hZ=>cv hL aP4 hZ sq)<|jn fun b9=>jd 6 [0,0]<|jn fun b28=>ku (sz:=1) (ps:=((ts.take k).map wv)) (qs:=[(.slice uG.a uG.n uG.c:Value)]) (enc:=iQ) (w:= .slice (some ⟨b28,0,none⟩) 1 1) [2] [0] [(b28,.cells ⟨([(.slice uG.a uG.n uG.c:Value)].map iQ).flatten⟩ 22 (0,0))] (hI.2) (fun s _ hZ=>bX [(.slice uG.a uG.n uG.c:Value)] (hZ _ (.head _)) (by intro p hp;rfl)) (by intro p hp;rw[List.mem_singleton] at hp;subst hp;exact an rfl) (by simp only[List.length_map,List.length_take,List.length_cons,List.length_nil];omega) (fun v29 L29 FN=>?_)
  obtain⟨ZF,Zy,adL⟩:=FN.form
  subst adL
  refine zD 3<|ja ((k:Int)+1) (by omega)<|zD 2<|bO bM (⟨k+1,(.slice ZF ((((ts.take k).map wv)++[(.slice uG.a uG.n uG.c:Value)])).length Zy),L29⟩) ⟨by dsimp only;omega,by rw[eY sq,List.map_append];exact FN⟩ (by dsimp only;omega) [0,3,4,5] (Sub.refl _)
 refine zD 3 ?_
 obtain⟨va3,vc3,Se⟩:=hI.2.form
 subst Se
 refine zD 6<|aE q0.a (.tuple ⟨[(.slice va3 (((ts.take k).map wv)).length vc3),zI 0]⟩) [] [0,2] (LO++Z) bV ⟨_,_,rfl,rfl,_,_,_,rfl,by simp only[List.length_map,List.length_take];omega,fun lB hk=>⟨_,hI.2.ma (Knows.left hk),by rw[List.take_of_length_le (by omega)];exact(hA lB (Knows.right hk)).maps fun _ _ h=>h.1⟩⟩
theorem asQ{fa:Option Addr}{S:List (List ah)}{y:aj}{x:TrD}{ro:Nat→Option Obj}(hS:cL ro vS S)(hO:eP S)(hT:nu ro vT ways)(hW:xL ways)(hy:y∈bx S)(hLx:cP S ways=[x]):eo zT 64 [.agg ⟨[vS,vT,.slice fa 0 fc]⟩,.agg ⟨[zI y.h,zI y.n,zI y.l]⟩] ro [] (fun r Y=>∃a n c,r= .tuple ⟨[.slice a n c,zI 0]⟩∧∀lB,Knows lB Y→bI lB (.slice a n c) 3 cw [x.g y]):=by
 have xB:=hS
 obtain⟨iL,hs,fF⟩:=hS
 obtain⟨mB,Uh,Uf,lP,rfl,Ug,Nh,Ng⟩:=hs
 obtain⟨jB,ht,fu⟩:=id hT
 obtain⟨eT,AM,AJ,dY,rfl,AK,sS,sR⟩:=ht
 have HG:=fF.len
 have D6:=fu.len
 have HC:=hO.two
 have zu:=hW.one
 have PQ:∀(i:Nat) (p:ei),([]:List ei)[i]?=some p→cg ⟨ro,[]⟩ 0 (0+i*6) 6 (n5 p):=fun _ _ h=>oG h
 have hhl:=tM hO
 have hph:=W6 hy
 have AQ:(cP S ways).length=1:=by rw[hLx];rfl
 refine bA au [] [] bn<|zD 2<|jn fun b2=>jn fun b3=>jd 6 [1]<|jcG (vs:=[.agg ⟨[.slice mB iL.length lP,.slice eT jB.length dY,.slice fa 0 fc]⟩]) [] (aeU xB hO hT hW) ?_
 rintro _ aA _ bV ⟨V3,vl,ts,Lt,Z,rfl,Hc,rfl,hL,htl,hA⟩
 obtain⟨uS,uT,uH,ua,uc,gb,_,_,hh⟩:=Hc
 obtain⟨dJ,uK,uJ,dr,rfl,wZ,qB,qA⟩:=hh
 obtain⟨Jz,Hn,xp⟩:=hL.form
 subst xp
 refine jg 0 [.l Lt,.l Z]<|zD 22<|jl (b:=V3) (off:=0) (m:=4) (vs:=[uS,uT,.slice ua 0 uc,.slice dJ ((bx S).length) dr]) 3 ⟨_,_,_,.inl gb,rfl⟩<|jd 1 [2]<|jp (vs:=[.slice dJ ((bx S).length) dr,.agg ⟨[zI y.h,zI y.n,zI y.l]⟩]) [] [] (fun aA hs hZ=>IP ((show bI _ _ _ _ _ from ⟨dJ,uK,uJ,dr,rfl,wZ,qB,qA⟩).up hs) (by omega))<|zD 2<|js 27 (!(decide (cQ (oF y.h y.n y.l) (bx S) 0≥0))) (fun h2=>?_) (fun h2=>?_)
 ·
  exfalso;simp_all
 refine zD 9<|zJ 30 ((ts.length:Int)=0) (fun h3=>?_) fun h3=>?_
 ·
  exfalso;omega
 refine zD 5<|jf [0,1] (Lt++Z) (fun ro6 kD YU=>?_)
 have hLs:=hL.ma (Knows.left YU)
 have hAs:=hA _ (Knows.right YU)
 obtain⟨lR,JX,JW,lQ,PX,Ni,Is,Ir⟩:=hLs
 simp only[Value.slice.injEq] at PX
 obtain⟨rfl,_,rfl⟩:=PX
 refine zD 9<|pQ<|ez [1,1,1,1,1,1,0,1,0,0] [] (fun(zz:Nat×Value×Cells)=>[(3,zP b3),(4,zS),(5,zI 0),(9,zz.2.1),(31,.slice Jz ts.length Hn),(32,zI (ts.length:Int)),(33,zI (zz.1:Int))]) (fun(zz:Nat×Value×Cells)=>[.l zz.2.2,.b b3 (.cells ⟨[zI y.h,zI y.n,zI y.l]⟩ 144 (0,0)),.b b2 (.cells ⟨[.slice mB iL.length lP,.slice eT jB.length dY,.slice fa 0 fc]⟩ 29 (0,0))]) (fun(zz:Nat×Value×Cells)=>zz.1≤ts.length∧az zz.2.1 3 144 cw ([x.g y].take zz.1) zz.2.2) (fun(zz:Nat×Value×Cells)=>ts.length-zz.1) (⟨0,zS,[]⟩) ⟨by dsimp only;omega,az.nil _ _ _⟩ [0,1,2] ?_
 rintro⟨k,vO,LO⟩ hI K1 bM rest
 dsimp only at hI
 refine zD 5<|zJ 34 ((k:Int) <(ts.length:Int)) (fun h7=>?_) fun h7=>?_
 ·
  refine zD 6 ?_
  obtain⟨x35,RL⟩:=zG ts k
  refine ij Hn 3 Is RL<|jl 0 (Ir _ _ RL)<|jn fun Mq=>jd 2 [0] ?_
  obtain⟨q35,ay0,_,bdr,bdv,F35,aOn,aQ6,aOz,aNh⟩:=hAs.get RL
  obtain⟨hqe,hk0⟩:=E6 (by rw[hLx] at ay0;exact ay0)
  replace hqe:=hqe.symm
  subst hqe
  refine jd 5 [0,2]<|jlu (kv:=ox) (F:=F35) (r:=x35.r) (K:=144) y (zS) false [] [] Cp (fun s he _=>⟨_,_,he _ _ (.inl aOn),aQ6⟩) ?_
  obtain⟨w41,aM9,aOl⟩:=UN (k:=y) (F:=F35) (aOz y hy)
  have hww:bI _ w41 3 cw [x.g y]:=aNh _ aOl
  obtain⟨QX,qwb,qwo,JR,rfl,qwk,qwh,qwl⟩:=hww
  refine jw 41 (.slice QX ([x.g y].length) JR) (show NU (zS) false y F35=_ from by simp only[NU,aM9];rfl) ?_
  refine ku (sz:=3) (ps:=([x.g y].take k)) (qs:=[x.g y]) (enc:=cw) (w:= .slice QX ([x.g y].length) JR) [1] [] [] (hI.2) (fun s he _=>⟨QX,qwb,qwo,JR,rfl,qwh,fun i p hp=>(qwl i p hp).ext he⟩) (fun p _=>an rfl) (by simp only[List.length_take,List.length_cons,List.length_nil];omega) (fun v42 L42 ac0=>?_)
  obtain⟨aIW,aIy,aPa⟩:=ac0.form
  subst aPa
  refine zD 3<|ja ((k:Int)+1) (by omega)<|zD 2<|bO bM (⟨k+1,(.slice aIW ((([x.g y].take k)++[x.g y])).length aIy),L42⟩) ⟨by dsimp only;omega,by have:=ac0;rw[hk0] at this ⊢;exact this⟩ (by dsimp only;omega) [0,2,3] (Sub.refl _)
 refine zD 5<|YQ (vs:=[vO]) [] [0] LO (fun aA hs hZ=>Vy (hI.2.ma hZ) (by simp only[List.length_take,List.length_cons,List.length_nil];omega)) ?_
 rintro v45 L45 azc
 obtain⟨anP,anF,arI⟩:=azc.form
 subst arI
 refine zD 4<|aE q0.a.a (.tuple ⟨[(.slice anP (([x.g y].take k)).length anF),zI 0]⟩) [] [0] L45 (bV.trans kD) ⟨_,_,rfl,rfl,_,_,_,rfl,fun lB hk=>by have:=azc.ma hk;have e: [x.g y].take k=[x.g y]:=List.take_of_length_le (by simp only[List.length_cons,List.length_nil];omega);simpa only[e] using this⟩
end Go.L
