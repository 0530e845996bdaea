/- Part 18 of the proof: a program logic, contracts, a theorem on goroutines. -/
import Derived.Test.YtjpghiajlddegaaGreatDoorA17
set_option maxRecDepth 100000
set_option linter.all false
namespace Go.L
open Go Go.Conc Go.Proofs
variable {ways:List (List aQ)} {aK:Nat→Option Obj} {Stop:Cells→Prop} {b b1 ck fc bl b2 b3 HL ck0 r1 en ec:Nat} {vS vT:Value} {seen:List Nat} {Z B LE:Cells} {α:Type}
def auA(S:List (List ah))(c:aQ):List (an×an):=
 if c.k=1 then aaQ c.st (S[c.st.toNat]?.getD []) else if c.k=2 then IG c.st (S[c.st.toNat]?.getD []) else Jm c.st c.ot (S[c.st.toNat]?.getD []) (rh (S[c.ot.toNat]?.getD []))
def yc(S:List (List ah))(c:aQ)(x:an):an:=gU (auA S c) x
theorem pG{l:List α}(h:l.length=2):∃a b,l=[a,b]:=by
 match l,h with
 | [a,b],_=>exact⟨a,b,rfl⟩
theorem PQ{ro:Nat→Option Obj}:dL zT 201 [] ro (.agg ⟨[.nilFunc,.func (.func 222) ⟨[]⟩ ⟨[]⟩,.func (.func 223) ⟨[]⟩ ⟨[]⟩,.func (.func 224) ⟨[]⟩ ⟨[]⟩,.func (.func 225) ⟨[]⟩ ⟨[]⟩,.func (.func 226) ⟨[]⟩ ⟨[]⟩,.func (.func 227) ⟨[]⟩ ⟨[]⟩,.func (.func 228) ⟨[]⟩ ⟨[]⟩]⟩):=by
 refine bI av [] [] bB<|zD 2<|jn fun b0=>jd 7 [0]<|aJ q0 (.agg ⟨[.nilFunc,.func (.func 222) ⟨[]⟩ ⟨[]⟩,.func (.func 223) ⟨[]⟩ ⟨[]⟩,.func (.func 224) ⟨[]⟩ ⟨[]⟩,.func (.func 225) ⟨[]⟩ ⟨[]⟩,.func (.func 226) ⟨[]⟩ ⟨[]⟩,.func (.func 227) ⟨[]⟩ ⟨[]⟩,.func (.func 228) ⟨[]⟩ ⟨[]⟩]⟩) [0] [] [] (Sub.refl _) ⟨_,_,rfl,rfl,rfl,rfl⟩
theorem aEQ{v:Value}{S:List (List ah)}{ro:Nat→Option Obj}(hS:cS ro v S)(hO:e8 S):eI zT 168 [.agg ⟨[v]⟩,.agg ⟨[zI 1,zI 0,zI 0,zI 0,zI 0,zI 0,zI 0]⟩] ro [] (fun r Y=>∃rm F LM Z,r= .tuple ⟨[.map (some rm),zI 0]⟩∧Y=LM++Z∧jO rm oF F LM∧F.map (·.1)=bG S∧MV Z F (yc S ⟨1,0,0,0,0,0,0⟩)):=by
 obtain⟨p,q,rfl⟩:=pG hO.two
 have xv:=hS
 obtain⟨ws,ht,dr⟩:=hS
 obtain⟨w1,w2,rfl⟩:=pG (dr.len.trans hO.two)
 obtain⟨eY,zh,zf,ee,rfl,zg,rH,rG⟩:=ht
 refine bI av [] [] bB<|zD 2<|jn fun b2=>jn fun b3=>jd 8 [0]<|jp (vs:=[zI 1,zI 1,zI 7]) [] [] (fun aE hs hZ=>Ai)<|jd 18 [1,0]<|jp (vs:=[zI 0,zI 0,zI 1]) [] [] (fun aE hs hZ=>Ai)<|jd 70 [0,0,0,0,0,0]<|jne Fp (vK 0 0 0 0)<|zD 3<|js 73 (!(0==0&&(0==0&&true))) (fun h1=>?_) (fun h1=>?_)
 ·
  have gh:=h1
  try simp only[zB] at gh
  exact absurd gh (by decide)
 have gh:=h1
 try simp only[zB] at gh
 refine jd 6 [0]<|jne Fp (vK 0 0 0 0)<|zD 3<|js 82 (!(0==0&&(0==0&&true))) (fun h2=>?_) (fun h2=>?_)
 ·
  exact absurd h2 (by decide)
 refine jd 5 [1]<|jc (vs:=[.agg ⟨[.slice eY 2 ee]⟩]) [] (JC (xv) hO) ?_
 rintro _ _ ⟨rm,F,LM,Z,rfl,rfl,hmM,hkM,hMM⟩
 refine jg 0 [.l LM,.l Z]<|jd 10 [2,3,2]<|jp [] [] (fun aE hs hZ=>PQ)<|zD 1<|aN 7 fun C1 C7 AT=>jc (vs:=[.agg ⟨[.slice eY 2 ee]⟩,.agg ⟨[zI 1,zI 0,zI 0,zI 0,zI 0,zI 0,zI 0]⟩,(.map (some rm))]) [0,1] (Wi (s:=0) xv hO rfl hmM hkM hMM) ?_
 rintro _ _ ⟨F2,MU,Z2,rfl,rfl,Ea,ju,hM2⟩
 refine jg 0 [.l MU,.l Z2]<|gX AT [[2]]<|zD 16<|aJ q0 (.tuple ⟨[(.map (some rm)),zI 0]⟩) [] [0,1] (MU++Z2) (Sub.refl _) ⟨_,_,rfl,rfl,rm,F2,MU,Z2,rfl,rfl,Ea,ju,hM2⟩
theorem aEP{v:Value}{S:List (List ah)}{ro:Nat→Option Obj}(hS:cS ro v S)(hO:e8 S):eI zT 168 [.agg ⟨[v]⟩,.agg ⟨[zI 2,zI 0,zI 0,zI 0,zI 0,zI 0,zI 0]⟩] ro [] (fun r Y=>∃rm F LM Z,r= .tuple ⟨[.map (some rm),zI 0]⟩∧Y=LM++Z∧jO rm oF F LM∧F.map (·.1)=bG S∧MV Z F (yc S ⟨2,0,0,0,0,0,0⟩)):=by
 obtain⟨p,q,rfl⟩:=pG hO.two
 have xv:=hS
 obtain⟨ws,ht,dr⟩:=hS
 obtain⟨w1,w2,rfl⟩:=pG (dr.len.trans hO.two)
 obtain⟨eY,zh,zf,ee,rfl,zg,rH,rG⟩:=ht
 refine bI av [] [] bB<|zD 2<|jn fun b2=>jn fun b3=>jd 8 [0]<|jp (vs:=[zI 2,zI 1,zI 7]) [] [] (fun aE hs hZ=>Ai)<|jd 18 [1,0]<|jp (vs:=[zI 0,zI 0,zI 1]) [] [] (fun aE hs hZ=>Ai)<|jd 70 [0,0,0,0,0,0]<|jne Fp (vK 0 0 0 0)<|zD 3<|js 73 (!(0==0&&(0==0&&true))) (fun h1=>?_) (fun h1=>?_)
 ·
  have gh:=h1
  try simp only[zB] at gh
  exact absurd gh (by decide)
 have gh:=h1
 try simp only[zB] at gh
 refine jd 6 [0]<|jne Fp (vK 0 0 0 0)<|zD 3<|js 82 (!(0==0&&(0==0&&true))) (fun h2=>?_) (fun h2=>?_)
 ·
  exact absurd h2 (by decide)
 refine jd 5 [1]<|jc (vs:=[.agg ⟨[.slice eY 2 ee]⟩]) [] (JC (xv) hO) ?_
 rintro _ _ ⟨rm,F,LM,Z,rfl,rfl,hmM,hkM,hMM⟩
 refine jg 0 [.l LM,.l Z]<|jd 10 [2,3,2]<|jp [] [] (fun aE hs hZ=>PQ)<|zD 1<|aN 7 fun C1 C7 AT=>jc (vs:=[.agg ⟨[.slice eY 2 ee]⟩,.agg ⟨[zI 2,zI 0,zI 0,zI 0,zI 0,zI 0,zI 0]⟩,(.map (some rm))]) [0,1] (PO (s:=0) xv hO rfl hmM hkM hMM) ?_
 rintro _ _ ⟨F2,MU,Z2,rfl,rfl,Ea,ju,hM2⟩
 refine jg 0 [.l MU,.l Z2]<|gX AT [[2]]<|zD 16<|aJ q0 (.tuple ⟨[(.map (some rm)),zI 0]⟩) [] [0,1] (MU++Z2) (Sub.refl _) ⟨_,_,rfl,rfl,rm,F2,MU,Z2,rfl,rfl,Ea,ju,hM2⟩
theorem aEO{v:Value}{S:List (List ah)}{ro:Nat→Option Obj}(hS:cS ro v S)(hO:e8 S):eI zT 168 [.agg ⟨[v]⟩,.agg ⟨[zI 1,zI 1,zI 0,zI 0,zI 0,zI 0,zI 0]⟩] ro [] (fun r Y=>∃rm F LM Z,r= .tuple ⟨[.map (some rm),zI 0]⟩∧Y=LM++Z∧jO rm oF F LM∧F.map (·.1)=bG S∧MV Z F (yc S ⟨1,1,0,0,0,0,0⟩)):=by
 obtain⟨p,q,rfl⟩:=pG hO.two
 have xv:=hS
 obtain⟨ws,ht,dr⟩:=hS
 obtain⟨w1,w2,rfl⟩:=pG (dr.len.trans hO.two)
 obtain⟨eY,zh,zf,ee,rfl,zg,rH,rG⟩:=ht
 refine bI av [] [] bB<|zD 2<|jn fun b2=>jn fun b3=>jd 8 [0]<|jp (vs:=[zI 1,zI 1,zI 7]) [] [] (fun aE hs hZ=>Ai)<|jd 18 [1,0]<|jp (vs:=[zI 1,zI 0,zI 1]) [] [] (fun aE hs hZ=>Ai)<|jd 70 [0,0,0,0,0,0]<|jne Fp (vK 0 0 0 0)<|zD 3<|js 73 (!(0==0&&(0==0&&true))) (fun h1=>?_) (fun h1=>?_)
 ·
  have gh:=h1
  try simp only[zB] at gh
  exact absurd gh (by decide)
 have gh:=h1
 try simp only[zB] at gh
 refine jd 6 [0]<|jne Fp (vK 0 0 0 0)<|zD 3<|js 82 (!(0==0&&(0==0&&true))) (fun h2=>?_) (fun h2=>?_)
 ·
  exact absurd h2 (by decide)
 refine jd 5 [1]<|jc (vs:=[.agg ⟨[.slice eY 2 ee]⟩]) [] (JC (xv) hO) ?_
 rintro _ _ ⟨rm,F,LM,Z,rfl,rfl,hmM,hkM,hMM⟩
 refine jg 0 [.l LM,.l Z]<|jd 10 [2,3,2]<|jp [] [] (fun aE hs hZ=>PQ)<|zD 1<|aN 7 fun C1 C7 AT=>jc (vs:=[.agg ⟨[.slice eY 2 ee]⟩,.agg ⟨[zI 1,zI 1,zI 0,zI 0,zI 0,zI 0,zI 0]⟩,(.map (some rm))]) [0,1] (Wi (s:=1) xv hO rfl hmM hkM hMM) ?_
 rintro _ _ ⟨F2,MU,Z2,rfl,rfl,Ea,ju,hM2⟩
 refine jg 0 [.l MU,.l Z2]<|gX AT [[2]]<|zD 16<|aJ q0 (.tuple ⟨[(.map (some rm)),zI 0]⟩) [] [0,1] (MU++Z2) (Sub.refl _) ⟨_,_,rfl,rfl,rm,F2,MU,Z2,rfl,rfl,Ea,ju,hM2⟩
theorem aEN{v:Value}{S:List (List ah)}{ro:Nat→Option Obj}(hS:cS ro v S)(hO:e8 S):eI zT 168 [.agg ⟨[v]⟩,.agg ⟨[zI 2,zI 1,zI 0,zI 0,zI 0,zI 0,zI 0]⟩] ro [] (fun r Y=>∃rm F LM Z,r= .tuple ⟨[.map (some rm),zI 0]⟩∧Y=LM++Z∧jO rm oF F LM∧F.map (·.1)=bG S∧MV Z F (yc S ⟨2,1,0,0,0,0,0⟩)):=by
 obtain⟨p,q,rfl⟩:=pG hO.two
 have xv:=hS
 obtain⟨ws,ht,dr⟩:=hS
 obtain⟨w1,w2,rfl⟩:=pG (dr.len.trans hO.two)
 obtain⟨eY,zh,zf,ee,rfl,zg,rH,rG⟩:=ht
 refine bI av [] [] bB<|zD 2<|jn fun b2=>jn fun b3=>jd 8 [0]<|jp (vs:=[zI 2,zI 1,zI 7]) [] [] (fun aE hs hZ=>Ai)<|jd 18 [1,0]<|jp (vs:=[zI 1,zI 0,zI 1]) [] [] (fun aE hs hZ=>Ai)<|jd 70 [0,0,0,0,0,0]<|jne Fp (vK 0 0 0 0)<|zD 3<|js 73 (!(0==0&&(0==0&&true))) (fun h1=>?_) (fun h1=>?_)
 ·
  have gh:=h1
  try simp only[zB] at gh
  exact absurd gh (by decide)
 have gh:=h1
 try simp only[zB] at gh
 refine jd 6 [0]<|jne Fp (vK 0 0 0 0)<|zD 3<|js 82 (!(0==0&&(0==0&&true))) (fun h2=>?_) (fun h2=>?_)
 ·
  exact absurd h2 (by decide)
 refine jd 5 [1]<|jc (vs:=[.agg ⟨[.slice eY 2 ee]⟩]) [] (JC (xv) hO) ?_
 rintro _ _ ⟨rm,F,LM,Z,rfl,rfl,hmM,hkM,hMM⟩
 refine jg 0 [.l LM,.l Z]<|jd 10 [2,3,2]<|jp [] [] (fun aE hs hZ=>PQ)<|zD 1<|aN 7 fun C1 C7 AT=>jc (vs:=[.agg ⟨[.slice eY 2 ee]⟩,.agg ⟨[zI 2,zI 1,zI 0,zI 0,zI 0,zI 0,zI 0]⟩,(.map (some rm))]) [0,1] (PO (s:=1) xv hO rfl hmM hkM hMM) ?_
 rintro _ _ ⟨F2,MU,Z2,rfl,rfl,Ea,ju,hM2⟩
 refine jg 0 [.l MU,.l Z2]<|gX AT [[2]]<|zD 16<|aJ q0 (.tuple ⟨[(.map (some rm)),zI 0]⟩) [] [0,1] (MU++Z2) (Sub.refl _) ⟨_,_,rfl,rfl,rm,F2,MU,Z2,rfl,rfl,Ea,ju,hM2⟩
theorem aEM{v:Value}{S:List (List ah)}{ro:Nat→Option Obj}(hS:cS ro v S)(hO:e8 S):eI zT 168 [.agg ⟨[v]⟩,.agg ⟨[zI 4,zI 1,zI 0,zI 0,zI 0,zI 0,zI 0]⟩] ro [] (fun r Y=>∃rm F LM Z,r= .tuple ⟨[.map (some rm),zI 0]⟩∧Y=LM++Z∧jO rm oF F LM∧F.map (·.1)=bG S∧MV Z F (yc S ⟨4,1,0,0,0,0,0⟩)):=by
 obtain⟨p,q,rfl⟩:=pG hO.two
 have xv:=hS
 obtain⟨ws,ht,dr⟩:=hS
 obtain⟨w1,w2,rfl⟩:=pG (dr.len.trans hO.two)
 obtain⟨eY,zh,zf,ee,rfl,zg,rH,rG⟩:=ht
 refine bI av [] [] bB<|zD 2<|jn fun b2=>jn fun b3=>jd 8 [0]<|jp (vs:=[zI 4,zI 1,zI 7]) [] [] (fun aE hs hZ=>Ai)<|jd 18 [1,0]<|jp (vs:=[zI 1,zI 0,zI 1]) [] [] (fun aE hs hZ=>Ai)<|jd 33 [0,0,0,0]<|jp (vs:=[zI 0,zI 0,zI 1]) [] [] (fun aE hs hZ=>Ai)<|jd 36 [0,0,0]<|jne Fp (vK 0 0 0 0)<|zD 3<|js 73 (!(0==0&&(0==0&&true))) (fun h1=>?_) (fun h1=>?_)
 ·
  have gh:=h1
  try simp only[zB] at gh
  exact absurd gh (by decide)
 have gh:=h1
 try simp only[zB] at gh
 refine jd 6 [0]<|jne Fp (vK 0 0 0 0)<|zD 3<|js 82 (!(0==0&&(0==0&&true))) (fun h2=>?_) (fun h2=>?_)
 ·
  exact absurd h2 (by decide)
 refine jd 5 [1]<|jc (vs:=[.agg ⟨[.slice eY 2 ee]⟩]) [] (JC (xv) hO) ?_
 rintro _ _ ⟨rm,F,LM,Z,rfl,rfl,hmM,hkM,hMM⟩
 refine jg 0 [.l LM,.l Z]<|jd 10 [2,3,2]<|jp [] [] (fun aE hs hZ=>PQ)<|zD 1<|aN 7 fun C1 C7 AT=>jc (vs:=[.agg ⟨[.slice eY 2 ee]⟩,.agg ⟨[zI 4,zI 1,zI 0,zI 0,zI 0,zI 0,zI 0]⟩,(.map (some rm))]) [0,1] (alu (s:=1) (o:=0) xv hO rfl hmM hkM hMM rfl) ?_
 rintro _ _ ⟨F2,MU,Z2,rfl,rfl,Ea,ju,hM2⟩
 refine jg 0 [.l MU,.l Z2]<|gX AT [[2]]<|zD 16<|aJ q0 (.tuple ⟨[(.map (some rm)),zI 0]⟩) [] [0,1] (MU++Z2) (Sub.refl _) ⟨_,_,rfl,rfl,rm,F2,MU,Z2,rfl,rfl,Ea,ju,hM2⟩
def Yc(n:Nat):Int:=if n=0 then 0 else if n <2 then 1 else if n <4 then 2 else if n <8 then 3 else 4
theorem aup{ro:Nat→Option Obj}:∀ {n:Nat},n≤12→dL zT 132 [zU (n:Int)] ro (zI (Yc n))
 |0,_=>by refine bI av [] [] bB (zD 35 (ja 0 (by decide) (zD 3 ?_)));exact aJ q0 (zI 0) [] [] [] (Sub.refl _) ⟨_,_,rfl,rfl,rfl,rfl⟩
 |1,_=>by refine bI av [] [] bB (zD 35 (ja 1 (by decide) (zD 3 ?_)));exact aJ q0 (zI 1) [] [] [] (Sub.refl _) ⟨_,_,rfl,rfl,rfl,rfl⟩
 |2,_=>by refine bI av [] [] bB (zD 35 (ja 2 (by decide) (zD 3 ?_)));exact aJ q0 (zI 2) [] [] [] (Sub.refl _) ⟨_,_,rfl,rfl,rfl,rfl⟩
 |3,_=>by refine bI av [] [] bB (zD 35 (ja 2 (by decide) (zD 3 ?_)));exact aJ q0 (zI 2) [] [] [] (Sub.refl _) ⟨_,_,rfl,rfl,rfl,rfl⟩
 |4,_=>by refine bI av [] [] bB (zD 35 (ja 3 (by decide) (zD 3 ?_)));exact aJ q0 (zI 3) [] [] [] (Sub.refl _) ⟨_,_,rfl,rfl,rfl,rfl⟩
 |5,_=>by refine bI av [] [] bB (zD 35 (ja 3 (by decide) (zD 3 ?_)));exact aJ q0 (zI 3) [] [] [] (Sub.refl _) ⟨_,_,rfl,rfl,rfl,rfl⟩
 |6,_=>by refine bI av [] [] bB (zD 35 (ja 3 (by decide) (zD 3 ?_)));exact aJ q0 (zI 3) [] [] [] (Sub.refl _) ⟨_,_,rfl,rfl,rfl,rfl⟩
 |7,_=>by refine bI av [] [] bB (zD 35 (ja 3 (by decide) (zD 3 ?_)));exact aJ q0 (zI 3) [] [] [] (Sub.refl _) ⟨_,_,rfl,rfl,rfl,rfl⟩
 |8,_=>by refine bI av [] [] bB (zD 35 (ja 4 (by decide) (zD 3 ?_)));exact aJ q0 (zI 4) [] [] [] (Sub.refl _) ⟨_,_,rfl,rfl,rfl,rfl⟩
 |9,_=>by refine bI av [] [] bB (zD 35 (ja 4 (by decide) (zD 3 ?_)));exact aJ q0 (zI 4) [] [] [] (Sub.refl _) ⟨_,_,rfl,rfl,rfl,rfl⟩
 |10,_=>by refine bI av [] [] bB (zD 35 (ja 4 (by decide) (zD 3 ?_)));exact aJ q0 (zI 4) [] [] [] (Sub.refl _) ⟨_,_,rfl,rfl,rfl,rfl⟩
 |11,_=>by refine bI av [] [] bB (zD 35 (ja 4 (by decide) (zD 3 ?_)));exact aJ q0 (zI 4) [] [] [] (Sub.refl _) ⟨_,_,rfl,rfl,rfl,rfl⟩
 |12,_=>by refine bI av [] [] bB (zD 35 (ja 4 (by decide) (zD 3 ?_)));exact aJ q0 (zI 4) [] [] [] (Sub.refl _) ⟨_,_,rfl,rfl,rfl,rfl⟩
 |n+13,h=>absurd h (by omega)
theorem aah{n:Nat}(h:n≤1000):Value.int .u64 (IntKind.u64.wrap (n:Int))= zU (n:Int):=by
 rw[rN .u64 rfl _ (by omega) (by simp[IntKind.bits];omega)]
def MN(v:Value)(xs:List ah)(Y:Cells):Prop:=∃ys,ys.Perm xs∧aD v 2 70 cH ys Y
theorem auq{n:Nat}{ro:Nat→Option Obj}(h:n≤12):dL zT 95 [zU (n:Int)] ro (zI (Yc n)):=by
 refine bI av [] [] bB<|zD 10<|jp (vs:=[zU (n:Int)]) [] [] (fun aE hs hZ=>(aup h))<|zD 3<|aJ q0 (zI (Yc n)) [] [] [] (Sub.refl _) ⟨_,_,rfl,rfl,rfl,rfl⟩
theorem aSE{v:Value}{xs:List ah}{L:Cells}{a b:Int}{ro:Nat→Option Obj}(ho:aD v 2 70 cH xs L)(hN:xs.length≤1000)(Ee:0≤a∧a≤b∧b≤xs.length):eI zT 247 [v,zI a,zI b,.func (.func 176) ⟨[]⟩ ⟨[]⟩] ro L (fun r Y=>MN v xs Y):=by
 refine bI av [.l L] [] bB<|zD 3<|ja (a+1) (by omega)<|zD 3<|eG [1,0,0] [] (fun(zz:Int×(List ah)×Cells)=>[(0,v),(1,zI a),(2,zI b),(3,.func (.func 176) ⟨[]⟩ ⟨[]⟩),(8,zI zz.1)]) (fun(zz:Int×(List ah)×Cells)=>[.l zz.2.2]) (fun(zz:Int×(List ah)×Cells)=>(a+1≤zz.1)∧aD v 2 70 cH zz.2.1 zz.2.2∧zz.2.1.Perm xs) (fun(zz:Int×(List ah)×Cells)=>(b-zz.1).toNat) (⟨(a+1),xs,L⟩) ⟨by dsimp only;omega,ho,.refl _⟩ [0] ?_
 rintro⟨i,ys,L⟩ hI K1 bU rest
 dsimp only at hI
 have VK:=hI.2.2.length_eq
 refine zD 7<|zJ 14 (i <b) (fun h1=>?_) fun h1=>?_
 ·
  refine zD 10<|eG [1,0,0,1,0,0,1,0,0] [K1] (fun(zz:Int×(List ah)×Cells)=>[(0,v),(1,zI a),(2,zI b),(3,.func (.func 176) ⟨[]⟩ ⟨[]⟩),(8,zI i),(9,zI zz.1)]) (fun(zz:Int×(List ah)×Cells)=>[.l zz.2.2]) (fun(zz:Int×(List ah)×Cells)=>(a≤zz.1∧zz.1≤i)∧aD v 2 70 cH zz.2.1 zz.2.2∧zz.2.1.Perm xs) (fun(zz:Int×(List ah)×Cells)=>(zz.1-a).toNat) (⟨i,ys,L⟩) ⟨by dsimp only;omega,hI.2⟩ [0] ?_
  rintro⟨j,ys,L⟩ hJ K2 lL rest
  dsimp only at hJ
  have VK:=hJ.2.2.length_eq
  refine zD 7<|js 3 (decide (j>a)) (fun h2=>?_) (fun h2=>?_)
  ·
   have mr:=h2
   replace mr:=of_decide_eq_true mr
   refine zD 3 ?_
   obtain⟨xH,kZ⟩:=zG ys (j.toNat) (by first|omega| (simp only[List.length_set];omega))
   refine pS j 2 hJ.2.1 kZ (Int.toNat_of_nonneg (show 0≤j∧j <((ys).length:Int) from (by first|omega| (simp only[List.length_set];omega))).1).symm (fun dW ae2=>?_)
   refine oQ 0 [0] L (fun s _ hZ=>cG hJ.2.1 ae2 hZ kZ)<|zD 2<|ja (j-1) (by omega) ?_
   obtain⟨nU,iR⟩:=zG ys ((j-1).toNat) (by first|omega| (simp only[List.length_set];omega))
   refine pS (j-1) 2 hJ.2.1 iR (Int.toNat_of_nonneg (show 0≤(j-1)∧(j-1) <((ys).length:Int) from (by first|omega| (simp only[List.length_set];omega))).1).symm (fun b30 Ta=>?_)
   refine oQ 0 [0] L (fun s _ hZ=>cG hJ.2.1 Ta hZ iR)<|aN 14 fun qZ q6 p7=>jp (vs:=[.agg ⟨[zI xH.n,zI xH.l]⟩,.agg ⟨[zI nU.n,zI nU.l]⟩]) [] [] (fun aE hs hZ=>(aoe (x:=xH) (y:=nU)))<|bD p7 [0]<|zD 3<|zJ 34 ((Za xH nU) <0) (fun h4=>?_) fun h4=>?_
   ·
    refine zD 9<|ja (j-1) (by omega)<|zD 2<|ja (j-1) (by omega) ?_
    obtain⟨wV,Dk⟩:=zG ys ((j-1).toNat) (by first|omega| (simp only[List.length_set];omega))
    refine pS (j-1) 2 hJ.2.1 Dk (Int.toNat_of_nonneg (show 0≤(j-1)∧(j-1) <((ys).length:Int) from (by first|omega| (simp only[List.length_set];omega))).1).symm (fun b45 ae1=>?_)
    refine oQ 0 [0] L (fun s _ hZ=>cG hJ.2.1 ae1 hZ Dk)<|zD 2 ?_
    obtain⟨HM,Dj⟩:=zG ys (j.toNat) (by first|omega| (simp only[List.length_set];omega))
    refine pS j 2 hJ.2.1 Dj (Int.toNat_of_nonneg (show 0≤j∧j <((ys).length:Int) from (by first|omega| (simp only[List.length_set];omega))).1).symm (fun b49 ae0=>?_)
    refine oQ 0 [0] L (fun s _ hZ=>cG hJ.2.1 ae0 hZ Dj) ?_
    obtain⟨x51,Di⟩:=zG ys (j.toNat) (by first|omega| (simp only[List.length_set];omega))
    refine pS j 2 hJ.2.1 Di (Int.toNat_of_nonneg (show 0≤j∧j <((ys).length:Int) from (by first|omega| (simp only[List.length_set];omega))).1).symm (fun b51 aeZ=>?_)
    refine aN 15 fun rK rR qz=>QF 0 0 [zI wV.n,zI wV.l] (⟨wV.n,wV.l⟩:ah) hJ.2.1 aeZ Di rfl rfl (Nat.le_of_ble_eq_true rfl) fun L6 Yy=>gX qz [] ?_
    obtain⟨x52,vi⟩:=zG ((ys.set j.toNat (⟨wV.n,wV.l⟩:ah))) ((j-1).toNat) (by first|omega| (simp only[List.length_set];omega))
    refine pS (j-1) 2 Yy vi (Int.toNat_of_nonneg (show 0≤(j-1)∧(j-1) <(((ys.set j.toNat (⟨wV.n,wV.l⟩:ah))).length:Int) from (by first|omega| (simp only[List.length_set];omega))).1).symm (fun b52 aeY=>?_)
    refine aN 17 fun yY y8 Ag=>QF 0 0 [zI HM.n,zI HM.l] (⟨HM.n,HM.l⟩:ah) Yy aeY vi rfl rfl (Nat.le_of_ble_eq_true rfl) fun L9 aeq=>dV Ag<|zD 3<|ja (j-1) (by omega)<|zD 2<|bO lL (⟨(j-1),((ys.set j.toNat (⟨wV.n,wV.l⟩:ah)).set ((j-1).toNat) (⟨HM.n,HM.l⟩:ah)),L9⟩) ⟨by dsimp only;omega,aeq,(nt Dj Dk).trans hJ.2.2⟩ (by dsimp only;omega) [0] (Sub.refl _)
   refine zD 4<|ja (i+1) (by omega)<|zD 2<|bO bU (⟨(i+1),ys,L⟩) ⟨by dsimp only;omega,hJ.2⟩ (by dsimp only;omega) [0] (Sub.refl _)
  have mr:=h2
  replace mr:=of_decide_eq_false mr
  refine zD 18<|ja (i+1) (by omega)<|zD 2<|bO bU (⟨(i+1),ys,L⟩) ⟨by dsimp only;omega,hJ.2⟩ (by dsimp only;omega) [0] (Sub.refl _)
 refine zD 2<|aJ q0 (.tuple ⟨[]⟩) [] [0] L (Sub.refl _) ⟨_,_,rfl,rfl,ys,hI.2.2,hI.2.1⟩
theorem aSC{v:Value}{xs:List ah}{L:Cells}{lim:Int}{ro:Nat→Option Obj}(ho:aD v 2 70 cH xs L)(hN:xs.length≤12):eI zT 229 [v,zI 0,zI (xs.length:Int),zI lim,.func (.func 176) ⟨[]⟩ ⟨[]⟩] ro L (fun r Y=>MN v xs Y):=by
 refine bI av [.l L] [] bB<|zD 9<|eG [1,1,0,0] [] (fun(zz:Nat)=>[(0,v),(1,zI 0),(2,zI (xs.length:Int)),(3,zI lim),(4,.func (.func 176) ⟨[]⟩ ⟨[]⟩),(10,.bool true),(11,.bool true)]) (fun(zz:Nat)=>[.l L]) (fun(zz:Nat)=>True) (fun(zz:Nat)=>zz) 0 trivial [0] ?_
 rintro z hI K1 bU rest
 refine zD 5<|ja ((xs.length:Int)-0) (by omega)<|zD 8<|zJ 25 (((xs.length:Int)-0)≤12) (fun h1=>?_) fun h1=>?_
 ·
  refine zD 7<|jc (vs:=[v,zI 0,zI (xs.length:Int),.func (.func 176) ⟨[]⟩ ⟨[]⟩]) [0] (aSE ho (by omega) (by omega)) ?_
  rintro axO Y30 ⟨aI8,asm,BI⟩
  refine zD 2<|aJ q0 (.tuple ⟨[]⟩) [] [0] Y30 (Sub.refl _) ⟨_,_,rfl,rfl,_,asm,BI⟩
 exfalso;omega
theorem afZ{v:Value}{xs:List ah}{L:Cells}{ro:Nat→Option Obj}(ho:aD v 2 70 cH xs L)(hN:xs.length≤12):eI zT 202 [v,.func (.func 176) ⟨[]⟩ ⟨[]⟩] ro L (fun r Y=>MN v xs Y):=by
 refine bI av [.l L] [] bB<|zD 3<|D7 ho<|zD 6<|je (zU (xs.length:Int)) (aah (by omega))<|jp (vs:=[zU (xs.length:Int)]) [] [] (fun aE hs hZ=>(auq (by omega)))<|zD 1<|jc (vs:=[v,zI 0,zI (xs.length:Int),zI (Yc xs.length),.func (.func 176) ⟨[]⟩ ⟨[]⟩]) [0] (aSC ho (by omega)) ?_
 rintro axP Y13 ⟨aJa,Yw,SV⟩
 refine zD 1<|aJ q0 (.tuple ⟨[]⟩) [] [0] Y13 (Sub.refl _) ⟨_,_,rfl,rfl,_,Yw,SV⟩
theorem aEI{v:Value}{xs:List an}{L:Cells}{ro:Nat→Option Obj}(ho:aD v 3 144 cI xs L)(hN:xs.length≤1):eI zT 204 [v,zI 0,zI (xs.length:Int),.func (.func 121) ⟨[]⟩ ⟨[]⟩] ro L (fun r Y=>aD v 3 144 cI xs Y):=by
 refine bI av [.l L] [] bB<|zD 7<|eG [1,0,0] [] (fun(zz:Nat)=>[(0,v),(1,zI 0),(2,zI (xs.length:Int)),(3,.func (.func 121) ⟨[]⟩ ⟨[]⟩),(8,zI (0+1))]) (fun(zz:Nat)=>[.l L]) (fun(zz:Nat)=>True) (fun(zz:Nat)=>zz) 0 trivial [0] ?_
 rintro z hI K1 bU rest
 refine zD 7<|zJ 14 ((0+1) <(xs.length:Int)) (fun h1=>?_) fun h1=>?_
 ·
  exfalso;omega
 refine zD 2<|aJ q0 (.tuple ⟨[]⟩) [] [0] L (Sub.refl _) ⟨_,_,rfl,rfl,ho⟩
theorem aED{v:Value}{xs:List an}{L:Cells}{lim:Int}{ro:Nat→Option Obj}(ho:aD v 3 144 cI xs L)(hN:xs.length≤1):eI zT 174 [v,zI 0,zI (xs.length:Int),zI lim,.func (.func 121) ⟨[]⟩ ⟨[]⟩] ro L (fun r Y=>aD v 3 144 cI xs Y):=by
 refine bI av [.l L] [] bB<|zD 9<|eG [1,1,0,0] [] (fun(zz:Nat)=>[(0,v),(1,zI 0),(2,zI (xs.length:Int)),(3,zI lim),(4,.func (.func 121) ⟨[]⟩ ⟨[]⟩),(10,.bool true),(11,.bool true)]) (fun(zz:Nat)=>[.l L]) (fun(zz:Nat)=>True) (fun(zz:Nat)=>zz) 0 trivial [0] ?_
 rintro z hI K1 bU rest
 refine zD 5<|ja ((xs.length:Int)-0) (by omega)<|zD 8<|zJ 25 (((xs.length:Int)-0)≤12) (fun h1=>?_) fun h1=>?_
 ·
  refine zD 7<|jc (vs:=[v,zI 0,zI (xs.length:Int),.func (.func 121) ⟨[]⟩ ⟨[]⟩]) [0] (aEI ho (by omega)) ?_
  rintro axO Y30 BI
  refine zD 2<|aJ q0 (.tuple ⟨[]⟩) [] [0] Y30 (Sub.refl _) ⟨_,_,rfl,rfl,BI⟩
 exfalso;omega
theorem auo{v:Value}{xs:List an}{L:Cells}{ro:Nat→Option Obj}(ho:aD v 3 144 cI xs L)(hN:xs.length≤1):eI zT 120 [v,.func (.func 121) ⟨[]⟩ ⟨[]⟩] ro L (fun r Y=>aD v 3 144 cI xs Y):=by
 refine bI av [.l L] [] bB<|zD 3<|D7 ho<|zD 6<|je (zU (xs.length:Int)) (aah (by omega))<|jp (vs:=[zU (xs.length:Int)]) [] [] (fun aE hs hZ=>(auq (by omega)))<|zD 1<|jc (vs:=[v,zI 0,zI (xs.length:Int),zI (Yc xs.length),.func (.func 121) ⟨[]⟩ ⟨[]⟩]) [0] (aED ho (by omega)) ?_
 rintro axP Y13 SV
 refine zD 1<|aJ q0 (.tuple ⟨[]⟩) [] [0] Y13 (Sub.refl _) ⟨_,_,rfl,rfl,SV⟩
theorem af3{v:Value}{xs:List an}{L:Cells}{ro:Nat→Option Obj}(ho:aD v 3 144 cI xs L)(hN:xs.length≤1):eI zT 122 [v] ro L (fun r Y=>v=r∧L=Y):=by
 refine bI av [.l L] [] bB<|zD 8<|D7 ho<|zD 2<|zJ 8 ((xs.length:Int) <2) (fun h1=>?_) fun h1=>?_
 ·
  refine zD 7<|aJ q0 (v) [] [0] L (Sub.refl _) ⟨_,_,rfl,rfl,rfl,rfl⟩
 exfalso;omega
theorem Wj{v:Value}{xs:List an}{ro:Nat→Option Obj}(hl:bL ro v 3 cI xs)(hN:xs.length≤1):eI zT 92 [v] ro [] (fun r Y=>aD r 3 144 cI xs Y):=by
 obtain⟨fC,rj,ri,eV,rfl,tj,lB,mz⟩:=hl
 refine bI av [] [] bB<|zD 7<|jc (vs:=[.slice fC xs.length eV]) [] (aSH (show bL _ _ _ _ _ from ⟨fC,rj,ri,eV,rfl,tj,lB,mz⟩) (by first|omega| (simp only[List.length_set,List.length_append,List.length_cons,List.length_nil];omega))) ?_
 rintro v5 L5 ho5
 obtain⟨va5,vc5,he5⟩:=ho5.form
 subst he5
 refine zD 5<|jc (vs:=[(.slice va5 (xs).length vc5),.func (.func 121) ⟨[]⟩ ⟨[]⟩]) [0] (auo ho5 (by omega)) ?_
 rintro rv7 Y7 Yy
 refine zD 4<|jc (vs:=[(.slice va5 (xs).length vc5)]) [0] (af3 Yy (by omega)) ?_
 rintro _ _ ⟨rfl,rfl⟩
 refine zD 3<|aJ q0 ((.slice va5 (xs).length vc5)) [] [0] Y7 (Sub.refl _) ⟨_,_,rfl,rfl,Yy⟩
theorem MV.put{Z2:Cells}{F:List (an×Value)}{g:an→an}(h:MV Z F g){k:an}{v:Value}(hv:∀aK,Knows aK Z2→bL aK v 3 cI [g k]):MV (Z++Z2) (mf k v F) g:=by
 have h1:∀x∈mf k v F,x=(k,v)∨x∈F:=fun x hx=>by
  unfold mf at hx
  split at hx
  ·rw[DW] at hx
   obtain⟨i,hi⟩:=List.getElem?_of_mem hx
   rw[List.getElem?_set] at hi
   split at hi
   ·split at hi
    ·cases hi;exact .inl rfl
    cases hi
   exact .inr (List.mem_of_getElem? hi)
  rcases List.mem_append.1 hx with h|h
  ·exact .inr h
  exact .inl (List.mem_singleton.1 h)
 intro aK hr x hx
 rcases h1 x hx with rfl|hx
 ·exact hv aK hr.right
 exact h aK hr.left x hx
theorem Ny{κ:Type}[DecidableEq κ]{k x:κ}{v:Value}{F:List (κ×Value)}(h:x=k∨x∈F.map (·.1)):x∈(mf k v F).map (·.1):=by
 unfold mf
 split
 ·rename_i i u hf
  have yt:=(qd hf).2
  rw[Nat.sub_zero] at yt
  have hs:((F.set i (k,v)).map (·.1))=F.map (·.1):=by
   rw[List.map_set]
   refine List.ext_getElem? fun j=>?_
   rw[List.getElem?_set]
   split
   ·rename_i hj;subst hj;simp[yt,(List.getElem?_eq_some_iff.1 yt).1,(List.getElem?_eq_some_iff.1 yt).2]
   rfl
  rw[DW,hs]
  rcases h with rfl|h
  ·exact List.mem_map_of_mem (f:=(·.1)) (List.mem_of_getElem? yt)
  exact h
 rw[List.map_append]
 rcases h with rfl|h
 ·exact List.mem_append_right _ (by simp)
 exact List.mem_append_left _ h
def Seen(es:Array MapEntry)(seen:List Nat)(F:List (an×Value)):Prop:=∀e∈es.toList,e∈cJ es seen∨∃k,e.key=oF k∧k∈F.map (·.1)
theorem Seen.start{es:Array MapEntry}{F:List (an×Value)}:Seen es [] F:=fun e he=> .inl (by rw[BD];exact he)
theorem Seen.step{es:Array MapEntry}{F0 F:List (an×Value)}(h:Seen es seen F)(hE:sR oF F0 es ck){e:MapEntry}(he:e∈cJ es seen){k:an}(hk:e.key=oF k){v:Value}:Seen es (seen++[e.born]) (mf k v F):=fun x hx=>by
 rcases h x hx with h1| ⟨q,h1,h2⟩
 ·rcases Sr hE he h1 with rfl|h2
  ·exact .inr ⟨k,hk,Ny (.inl rfl)⟩
  exact .inl h2
 exact .inr ⟨q,h1,Ny (.inr h2)⟩
theorem aj4{a b:an}(h:oF a=oF b):a=b:=by
 rcases a with ⟨x,y,z⟩;rcases b with ⟨d,e,f⟩
 simp only[oF,cI,Value.agg.injEq,Array.mk.injEq,List.cons.injEq,Value.int.injEq] at h
 simp[h.1.2,h.2.1.2,h.2.2.1.2]
theorem Seen.fin{es:Array MapEntry}{F0 F:List (an×Value)}(h:Seen es seen F)(hl:cJ es seen=[])(hE:sR oF F0 es ck){k:an}(hk:k∈F0.map (·.1)):k∈F.map (·.1):=by
 obtain⟨⟨k',v⟩,h1,rfl⟩:=List.mem_map.1 hk
 have:(oF k',v)∈es.toList.map (fun e=>(e.key,e.val)):=by rw[hE.1];exact List.mem_map_of_mem (f:=fun x:an×Value=>(oF x.1,x.2)) h1
 obtain⟨e,h2,h3⟩:=List.mem_map.1 this
 simp only[Prod.mk.injEq] at h3
 rcases h e h2 with h4| ⟨q,h4,h5⟩
 ·rw[hl] at h4;cases h4
 have:=aj4 (h3.1.symm.trans h4);subst this;exact h5
structure Qs(ro:Nat→Option Obj)(r:Nat)(H:List an)(g:an→an)(es:Array MapEntry)(ck:Nat)(F:List (an×Value)):Prop where
 m:ro r=some (.map es ck)
 e:sR oF F es ck
 k:F.map (·.1)=H
 v:∀x∈F,bL ro x.2 3 cI [g x.1]
theorem Fh{a x:α}{j:Nat}(h: [a][j]?=some x):x=a∧j=0:=by
 cases j with
 |zero=>simp at h;exact⟨h.symm,rfl⟩
 |succ j=>simp at h
theorem aoc{AX:Array MapEntry}{F1:List (an×Value)}{r2 Zc:Nat}{DC:Array MapEntry}{F2:List (an×Value)}{H:List an}{g:an→an}{ro:Nat→Option Obj}(HF:Qs ro r1 H id AX HL F1)(hP2:Qs ro r2 H g DC Zc F2):eI zT 171 [(.map (some r1)),(.map (some r2))] ro [] (fun r Y=>∃rm F LM Z,r= .map (some rm)∧Y=LM++Z∧jO rm oF F LM∧(∀h∈H,h∈F.map (·.1))∧MV Z F g):=by
 refine bI av [] [] bB<|zD 6<|jmk oF fun EX L11 aew=>zD 6<|jmR HF.m fun r13=>jg 0 [.b r13 (uh r1 HL [])]<|zD 2<|oU<|eG [1,1,0,1,0,0] [] (fun(zz:(List Nat)×(List (an×Value))×Cells×Cells)=>[(1,(.map (some r2))),(4,(.map none)),(5,(.map (some EX))),(13,zP r13)]) (fun(zz:(List Nat)×(List (an×Value))×Cells×Cells)=>[.b r13 (uh r1 HL zz.1),.l zz.2.2.1,.l zz.2.2.2]) (fun(zz:(List Nat)×(List (an×Value))×Cells×Cells)=>jO EX oF zz.2.1 zz.2.2.1∧Seen AX zz.1 zz.2.1∧MV zz.2.2.2 zz.2.1 g) (fun(zz:(List Nat)×(List (an×Value))×Cells×Cells)=>(cJ AX zz.1).length) (⟨[],[],L11,[]⟩) ⟨aew,Seen.start,fun _ _ _ h=>(by cases h)⟩ [1,2,0] ?_
 rintro⟨seen,F,LM,Z⟩ hI K1 bU rest
 dsimp only at hI
 refine zD 2<|jmN (it:=r13) (kv:=oF) (seen:=seen) 0 HF.m HF.e (fun M6 v14 Mp aBk uB akR aOr=>?_) (fun aNS=>?_)
 ·
  have hkH:M6∈H:=by rw[←HF.k];exact List.mem_map_of_mem (f:=(·.1)) aBk
  have hvv:bL ro v14 3 cI [M6]:=HF.v _ aBk
  obtain⟨N8,qvb,qvo,C9,rfl,qvk,RR,RQ⟩:=hvv
  refine jg 0 [.b r13 (uh r1 HL (seen++[Mp.born]))]<|zD 8<|jmE (it:=r13) 0 HF.m HF.e uB akR aOr<|jg 0 [.b r13 (uh r1 HL (seen++[Mp.born]))]<|zD 2<|jn fun b6=>jd 15 [0]<|oU<|eG [1,1,0,1,0,0,1,1,0,1,1,0,1,0,0] [K1] (fun(zz:Nat×Value×Cells)=>[(1,(.map (some r2))),(4,(.map none)),(5,(.map (some EX))),(6,zP b6),(8,zz.2.1),(13,zP r13),(19,.slice N8 ([M6].length) C9),(20,zI ([M6].length:Int)),(21,zI (zz.1:Int))]) (fun(zz:Nat×Value×Cells)=>[.l zz.2.2,.b b6 (.cells ⟨[zI M6.h,zI M6.n,zI M6.l]⟩ 144 (0,0)),.b r13 (uh r1 HL (seen++[Mp.born])),.l LM,.l Z]) (fun(zz:Nat×Value×Cells)=>zz.1≤[M6].length∧aD zz.2.1 3 144 cI ([g M6].take zz.1) zz.2.2) (fun(zz:Nat×Value×Cells)=>[M6].length-zz.1) (⟨0,zS,[]⟩) ⟨by simp,aD.nil _ _ _⟩ [0,1,2,3,4] ?_
  rintro⟨i,vO,LO⟩ hJ K2 lL rest
  dsimp only at hJ
  have QP: [M6].length=1:=rfl
  refine zD 5<|zJ 22 ((i:Int) <([M6].length:Int)) (fun h1=>?_) fun h1=>?_
  ·
   refine zD 6 ?_
   obtain⟨uI,su⟩:=zG ([M6]) i
   refine iE C9 3 RR su<|jl 0 (RQ _ _ su)<|jn fun rJ=>jd 2 [0] ?_
   obtain⟨hxe,hj0⟩:=Fh su
   refine jd 4 [0]<|jlu (kv:=oF) (F:=F2) (r:=r2) (K:=144) uI (zS) false [] [] CC (fun s he _=>⟨_,_,he _ _ (.inl hP2.m),hP2.e⟩) ?_
   obtain⟨w28,aOd,asE⟩:=Vu (k:=uI) (F:=F2) (by rw[hP2.k,hxe];exact hkH)
   have hww:bL ro w28 3 cI [g uI]:=hP2.v _ asE
   obtain⟨RP,qwb,qwo,Kq,rfl,qwk,qwh,qwl⟩:=hww
   refine jw 28 (.slice RP ([g uI].length) Kq) (show OU (zS) false uI F2=_ from by simp only[OU,aOd];rfl) ?_
   refine jk (sz:=3) (ps:=([g M6].take i)) (qs:=[g uI]) (enc:=cI) (w:= .slice RP ([g uI].length) Kq) [1] [] [] (hJ.2) (fun s he _=>⟨RP,qwb,qwo,Kq,rfl,qwh,fun i p hp=>(qwl i p hp).ext he⟩) (fun p _=>aj rfl) (by simp only[List.length_take,List.length_cons,List.length_nil];omega) (fun v29 L29 F4=>?_)
   obtain⟨aaC,aav,aeR⟩:=F4.form
   subst aeR
   refine zD 3<|ja ((i:Int)+1) (by omega)<|zD 2<|bO lL (⟨i+1,(.slice aaC ((([g M6].take i)++[g uI])).length aav),L29⟩) ⟨by dsimp only;omega,by have:=F4;rw[hj0] at this ⊢;rw[hxe] at this;exact this⟩ (by dsimp only;omega) [0,2,3,4,5] (Sub.refl _)
  refine jd 6 [1]<|aN 3 fun qZ q6 p7=>ZK (vs:=[vO]) [] [0] LO (fun aE hs hZ=>Wj (hJ.2.lq hZ) (by simp only[List.length_take,List.length_cons,List.length_nil];omega)) ?_
  rintro v34 L34 aO7
  refine bD p7 [1,2,3,4,5]<|aN 4 fun rK rR qz=>jmu (kv:=oF) (F:=F) (r:=EX) (K:=144) 4 M6 (v34) CC hI.1 fun Lm4 hm4=>dV qz<|zD 1<|Lh bU (⟨(seen++[Mp.born]),_,Lm4,Z++L34⟩) ⟨hm4,hI.2.1.step HF.e uB akR,hI.2.2.put fun aK hk=>(by have:=aO7;rw[show ([g M6].take i)=[g M6] from List.take_of_length_le (by simp;omega)] at this;exact this.lq hk)⟩ (FC uB) [[4],[0],[5,1]] (Sub.refl _)
 refine jg 0 [.b r13 (uh r1 HL seen)]<|zD 11<|aJ q0 ((.map (some EX))) [] [1,2] (LM++Z) (Sub.refl _) ⟨_,_,rfl,rfl,EX,F,LM,Z,rfl,rfl,hI.1,fun h hh=>hI.2.1.fin aNS HF.e (by rw[HF.k];exact hh),hI.2.2⟩
theorem acO{κ:Type}{kv:κ→Value}{F:List (κ×Value)}{es:Array MapEntry}(h:sR kv F es ck):es.toList.length=F.length:=by
 have:=congrArg List.length h.1
 simpa using this
theorem af5{AX:Array MapEntry}{F1:List (an×Value)}{H:List an}{g:an→an}{ro:Nat→Option Obj}(HF:Qs ro r1 H g AX HL F1)(hn:H.length≤8)(hS:∀x∈F1,(g x.1).h=0∨(g x.1).h=1):eI zT 170 [(.map (some r1)),zI 2] ro [] (fun r Y=>∃a n c,r= .agg ⟨[.slice a n c]⟩):=by
 refine bI av [] [] bB<|zD 2<|jn fun b4=>zD 4<|jmS (E:=71) (z:= zS) fun yW=>jg 0 [.b yW (.cells ⟨[zS,zS]⟩ 71 (0,0))]<|zD 1<|jn fun b5=>jd 6 [0]<|jmR HF.m fun XJ=>jg 0 [.b XJ (uh r1 HL [])]<|zD 2<|oU<|oU<|eG [1,1,0,1,0,0] [] (fun(zz:(List Nat)×Value×Cells×(List ah)×Value×Cells×(List ah))=>[(4,zP b4),(5,zP b5),(16,zP XJ)]) (fun(zz:(List Nat)×Value×Cells×(List ah)×Value×Cells×(List ah))=>[.b XJ (uh r1 HL zz.1),.b yW (.cells ⟨[zz.2.1,zz.2.2.2.2.1]⟩ 71 (0,0)),.l zz.2.2.1,.l zz.2.2.2.2.2.1,.b b5 (.cells ⟨[.slice (some ⟨yW,0,none⟩) 2 2]⟩ 25 (0,0)),.b b4 (.cells ⟨[zS]⟩ 25 (0,0))]) (fun(zz:(List Nat)×Value×Cells×(List ah)×Value×Cells×(List ah))=>zz.2.2.2.1.length+zz.2.2.2.2.2.2.length+(cJ AX zz.1).length≤8∧aD zz.2.1 2 70 cH zz.2.2.2.1 zz.2.2.1∧aD zz.2.2.2.2.1 2 70 cH zz.2.2.2.2.2.2 zz.2.2.2.2.2.1) (fun(zz:(List Nat)×Value×Cells×(List ah)×Value×Cells×(List ah))=>(cJ AX zz.1).length) (⟨[],zS,[],[],zS,[],[]⟩) ⟨by rw[BD,acO HF.e];have:=congrArg List.length HF.k;simp at this ⊢;omega,aD.nil _ _ _,aD.nil _ _ _⟩ [2,4,1,0,3,5] ?_
 rintro⟨seen,w0,L0,p0,w1,L1,p1⟩ hI K1 bU rest
 dsimp only at hI
 refine zD 2<|jmN (it:=XJ) (kv:=oF) (seen:=seen) 0 HF.m HF.e (fun k17 v17 e17 akX Ic YF aOp=>?_) (fun bbz=>?_)
 ·
  have hvv:bL ro v17 3 cI [g k17]:=HF.v _ akX
  obtain⟨N8,qvb,qvo,C9,rfl,qvk,RR,RQ⟩:=hvv
  have hsg:(g k17).h=0∨(g k17).h=1:=hS _ akX
  have cK:=FC Ic
  refine jg 0 [.b XJ (uh r1 HL (seen++[e17.born]))]<|zD 8<|jmE (it:=XJ) 0 HF.m HF.e Ic YF aOp<|jg 0 [.b XJ (uh r1 HL (seen++[e17.born]))]<|zD 10<|eG [1,1,0,1,0,0,1,1,0,1,1,0,0] [K1] (fun(zz:Nat×Value×Cells×(List ah)×Value×Cells×(List ah))=>[(4,zP b4),(5,zP b5),(16,zP XJ),(21,.slice N8 ([g k17].length) C9),(22,zI ([g k17].length:Int)),(23,zI (zz.1:Int))]) (fun(zz:Nat×Value×Cells×(List ah)×Value×Cells×(List ah))=>[.b XJ (uh r1 HL (seen++[e17.born])),.b yW (.cells ⟨[zz.2.1,zz.2.2.2.2.1]⟩ 71 (0,0)),.l zz.2.2.1,.l zz.2.2.2.2.2.1,.b b5 (.cells ⟨[.slice (some ⟨yW,0,none⟩) 2 2]⟩ 25 (0,0)),.b b4 (.cells ⟨[zS]⟩ 25 (0,0))]) (fun(zz:Nat×Value×Cells×(List ah)×Value×Cells×(List ah))=>(zz.1≤1∧zz.2.2.2.1.length+zz.2.2.2.2.2.2.length+(cJ AX (seen++[e17.born])).length+(1-zz.1)≤8)∧aD zz.2.1 2 70 cH zz.2.2.2.1 zz.2.2.1∧aD zz.2.2.2.2.1 2 70 cH zz.2.2.2.2.2.2 zz.2.2.2.2.2.1) (fun(zz:Nat×Value×Cells×(List ah)×Value×Cells×(List ah))=>1-zz.1) (⟨0,w0,L0,p0,w1,L1,p1⟩) ⟨by dsimp only;omega,hI.2⟩ [0,1,2,3,4,5] ?_
  rintro⟨i,w0,L0,p0,w1,L1,p1⟩ hJ K2 lL rest
  dsimp only at hJ
  have QP: [g k17].length=1:=rfl
  refine zD 5<|zJ 24 ((i:Int) <([g k17].length:Int)) (fun h1=>?_) fun h1=>?_
  ·
   refine zD 6 ?_
   obtain⟨xH,kZ⟩:=zG ([g k17]) i
   refine iE C9 3 RR kZ<|jl 0 (RQ _ _ kZ) ?_
   obtain⟨hxe,hi0⟩:=Fh kZ;rw[←hxe] at hsg;obtain⟨xh,xn,xl⟩:=xH;dsimp only at hsg;rcases hsg with rfl|rfl
   ·
    refine jn fun b9=>jd 11 [0,5,0,5,0]<|jd 4 [2,0]<|aN 12 fun qZ q6 p7=>jn fun b39=>bD p7 [1,2,3,4,5,6,7]<|aN 13 fun rK rR qz=>jk (sz:=2) (ps:=p0) (qs:=[(⟨xn,xl⟩:ah)]) (enc:=cH) (w:= .slice (some ⟨b39,0,none⟩) 1 1) [4] [0] [(b39,.cells ⟨([(⟨xn,xl⟩:ah)].map cH).flatten⟩ 70 (0,0))] (hJ.2.1) (fun s _ hZ=>cg [(⟨xn,xl⟩:ah)] (hZ _ (.head _)) (by intro p hp;rfl)) (fun p _=>aj rfl) (by simp only[List.length_cons,List.length_nil];omega) (fun v40 L40 FZ=>?_)
    obtain⟨apc,ao2,ati⟩:=FZ.form
    subst ati
    refine gX qz [[2],[6],[2],[6]]<|zD 1<|aN 15 fun yY y8 Ag=>jd 1 [4]<|dV Ag<|zD 2<|ja ((i:Int)+1) (by omega)<|zD 2<|bO lL (⟨i+1,(.slice apc ((p0++[(⟨xn,xl⟩:ah)])).length ao2),L40,(p0++[(⟨xn,xl⟩:ah)]),w1,L1,p1⟩) ⟨by simp only[List.length_append,List.length_cons,List.length_nil];omega,FZ,hJ.2.2⟩ (by dsimp only;omega) [3,4,0,5,6,7] (Sub.refl _)
   refine jn fun b9=>jd 11 [0,5,0,5,0]<|jd 4 [2,0]<|aN 12 fun Z5 aaW YL=>jn fun b39=>bD YL [1,2,3,4,5,6,7]<|aN 13 fun aiy aiU Ti=>jk (sz:=2) (ps:=p1) (qs:=[(⟨xn,xl⟩:ah)]) (enc:=cH) (w:= .slice (some ⟨b39,0,none⟩) 1 1) [5] [0] [(b39,.cells ⟨([(⟨xn,xl⟩:ah)].map cH).flatten⟩ 70 (0,0))] (hJ.2.2) (fun s _ hZ=>cg [(⟨xn,xl⟩:ah)] (hZ _ (.head _)) (by intro p hp;rfl)) (fun p _=>aj rfl) (by simp only[List.length_cons,List.length_nil];omega) (fun v40 L40 FZ=>?_)
   obtain⟨apc,ao2,ati⟩:=FZ.form
   subst ati
   refine gX Ti [[2],[6],[2],[6]]<|zD 1<|aN 15 fun W8 Xj YK=>jd 1 [4]<|dV YK<|zD 2<|ja ((i:Int)+1) (by omega)<|zD 2<|bO lL (⟨i+1,w0,L0,p0,(.slice apc ((p1++[(⟨xn,xl⟩:ah)])).length ao2),L40,(p1++[(⟨xn,xl⟩:ah)])⟩) ⟨by simp only[List.length_append,List.length_cons,List.length_nil];omega,hJ.2.1,FZ⟩ (by dsimp only;omega) [3,4,5,0,6,7] (Sub.refl _)
  refine zD 2<|bO bU (⟨(seen++[e17.born]),w0,L0,p0,w1,L1,p1⟩) ⟨by dsimp only;omega,hJ.2⟩ cK [0,1,2,3,4,5] (Sub.refl _)
 refine jg 0 [.b XJ (uh r1 HL seen)]<|jd 14 [4]<|eG [1,1,1,0,1,0,0] [] (fun(zz:Nat×Value×Cells×(List ah)×Value×Cells×(List ah))=>[(4,zP b4),(5,zP b5),(44,.slice (some ⟨yW,0,none⟩) 2 2),(45,zI 2),(46,zI (zz.1:Int))]) (fun(zz:Nat×Value×Cells×(List ah)×Value×Cells×(List ah))=>[.b yW (.cells ⟨[zz.2.1,zz.2.2.2.2.1]⟩ 71 (0,0)),.l zz.2.2.1,.l zz.2.2.2.2.2.1,.b b5 (.cells ⟨[.slice (some ⟨yW,0,none⟩) 2 2]⟩ 25 (0,0)),.b b4 (.cells ⟨[zS]⟩ 25 (0,0))]) (fun(zz:Nat×Value×Cells×(List ah)×Value×Cells×(List ah))=>(zz.1≤2∧zz.2.2.2.1.length≤8∧zz.2.2.2.2.2.2.length≤8)∧aD zz.2.1 2 70 cH zz.2.2.2.1 zz.2.2.1∧aD zz.2.2.2.2.1 2 70 cH zz.2.2.2.2.2.2 zz.2.2.2.2.2.1) (fun(zz:Nat×Value×Cells×(List ah)×Value×Cells×(List ah))=>2-zz.1) (⟨0,w0,L0,p0,w1,L1,p1⟩) ⟨by dsimp only;omega,hI.2⟩ [1,2,3,4,5] ?_
 rintro⟨k,w0,L0,p0,w1,L1,p1⟩ hQ K9 hK9 rest
 dsimp only at hQ
 refine zD 5<|zJ 47 ((k:Int) <2) (fun h8=>?_) fun h8=>?_
 ·
  refine zD 6 ?_
  rcases(show k=0∨k=1 by omega) with hk0|hk0
  ·
   refine jw 46 (zI 0) (show Value.int .i64 (k:Int)= zI 0 by rw[hk0];rfl) ?_
   refine jd 6 [0]<|jc (vs:=[w0,.func (.func 176) ⟨[]⟩ ⟨[]⟩]) [1] (afZ hQ.2.1 (by omega)) ?_
   rintro aLN Y51 ⟨aoM,ash,ass⟩
   refine zD 5 ?_
   have hle:=ash.length_eq
   exact bO hK9 (⟨1,w0,Y51,aoM,w1,L1,p1⟩) ⟨by dsimp only;omega,ass,hQ.2.2⟩ (by dsimp only;omega) [1,0,2,3,4] (Sub.refl _)
  refine jw 46 (zI 1) (show Value.int .i64 (k:Int)= zI 1 by rw[hk0];rfl) ?_
  refine jd 6 [0]<|jc (vs:=[w1,.func (.func 176) ⟨[]⟩ ⟨[]⟩]) [2] (afZ hQ.2.2 (by omega)) ?_
  rintro aLN Y51 ⟨aoM,ash,ass⟩
  refine zD 5 ?_
  have hle:=ash.length_eq
  exact bO hK9 (⟨2,w0,L0,p0,w1,Y51,aoM⟩) ⟨by dsimp only;omega,hQ.2.1,ass⟩ (by dsimp only;omega) [1,2,0,3,4] (Sub.refl _)
 refine jd 8 [3,4]<|aJ q0 (.agg ⟨[.slice (some ⟨yW,0,none⟩) 2 2]⟩) [4] [] [] (Sub.refl _) ⟨_,_,rfl,rfl,_,_,_,rfl⟩
structure Ug where
 a:Option Addr
 n:Nat
 c:Nat
 ea:Option Addr
 en:Nat
 ec:Nat
 r:Nat
abbrev agE(t:Ug):List Value:=[.slice t.a t.n t.c,.slice t.ea t.en t.ec,.map (some t.r)]
structure TrD where
 ways:List Int
 g:an→an
def aTP(ro:Nat→Option Obj)(r:Nat)(H:List an)(g:an→an):Prop:=∃es ck F,ro r=some (.map es ck)∧sR oF F es ck∧(∀h∈H,h∈F.map (·.1))∧∀y∈F,bL ro y.2 3 cI [g y.1]
def TrR(H:List an)(ro:Nat→Option Obj)(t:Ug)(x:TrD):Prop:=bL ro (.slice t.a t.n t.c) 1 db x.ways∧aTP ro t.r H x.g
def TrO(H:List an)(LL:Cells)(t:Ug)(x:TrD):Prop:=∀aK,Knows aK LL→TrR H aK t x
abbrev alE(H:List an)(L:List TrD):(Nat→Option Obj)→Nat→List Value→Cells→Prop:=fun _ k vs LL=>∃x t,L[k]?=some x∧vs=[.agg ⟨agE t⟩]∧TrO H LL t x
def apq(S:List (List ah))(l:List aQ)(i:Nat):TrD:=⟨[(i:Int)],match l[i]? with
 |some c=>yc S c
 |none=>id⟩
def cY(S:List (List ah)):List (List aQ)→List TrD
 | []=>[⟨[],id⟩]
 |l::_=>(List.range l.length).map (apq S l)
theorem Iy{S:List (List ah)}{l:List aQ}{i:Nat}{c:aQ}(h:l[i]?=some c):(cY S [l])[i]?=some ⟨[(i:Int)],yc S c⟩:=by
 have hi:=(List.getElem?_eq_some_iff.1 h).1
 simp only[cY,List.getElem?_map,List.getElem?_range hi,Option.map_some,apq,h]
structure xF(ways:List (List aQ)):Prop where
 one:ways.length≤1
 ok:∀l∈ways,(1≤l.length∧l.length≤3)∧∀c∈l,jo c
theorem aFc{c:aQ}(h:jo c):1≤c.k∧c.k≤7:=by
 simp only[jo,List.mem_cons,List.not_mem_nil,or_false] at h
 rcases h with rfl|rfl|rfl|rfl|rfl<;>simp
theorem aob{x:an}:∀(u:List (an×an)) (y:an),u.foldl (fun y p=>if x=p.1 then p.2 else y) y=y∨∃p∈u,u.foldl (fun y p=>if x=p.1 then p.2 else y) y=p.2
 | [],y=> .inl rfl
 |p::u,y=>by
  simp only[List.foldl_cons]
  rcases aob (x:=x) u (if x=p.1 then p.2 else y) with h| ⟨q,hq,h⟩
  ·rw[h]
   split
   ·exact .inr ⟨p,by simp,rfl⟩
   exact .inl rfl
  exact .inr ⟨q,by simp[hq],h⟩
theorem aun{u:List (an×an)}{x:an}:gU u x=x∨∃p∈u,gU u x=p.2:=aob u x
theorem acF{S:List (List ah)}{c:aQ}(hc:jo c){x:an}(hx:x.h=0∨x.h=1):(yc S c x).h=0∨(yc S c x).h=1:=by
 rcases aun (u:=auA S c) (x:=x) with h| ⟨p,hp,h⟩
 ·rw[yc,h];exact hx
 rw[yc,h]
 simp only[jo,List.mem_cons,List.not_mem_nil,or_false] at hc
 rcases hc with rfl|rfl|rfl|rfl|rfl<;>simp[auA,aaQ,IG,Jm,HS,mB] at hp
 ·obtain⟨_,_,_,_,_,rfl⟩:=hp;exact .inl rfl
 ·obtain⟨_,_,rfl⟩:=hp;exact .inl rfl
 ·obtain⟨_,_,_,_,_,rfl⟩:=hp;exact .inr rfl
 ·obtain⟨_,_,rfl⟩:=hp;exact .inr rfl
 obtain⟨_,_,rfl⟩:=hp;exact .inl rfl
theorem Pg{S:List (List ah)}(hO:e8 S){x:an}(hx:x∈bG S):x.h=0∨x.h=1:=by
 obtain⟨j,l,p,h1,_,_,rfl⟩:=D8.1 hx
 have:=hO.two
 simp only[mB];omega
theorem Qs.up{ro:Nat→Option Obj}{r:Nat}{H:List an}{g:an→an}{es:Array MapEntry}{F:List (an×Value)}(h:Qs ro r H g es ck F)(hs:Sub ro aK):Qs aK r H g es ck F:=⟨hs _ _ h.m,h.e,h.k,fun x hx=>(h.v x hx).up hs⟩
theorem aSF{v:Value}{S:List (List ah)}{c:aQ}{ro:Nat→Option Obj}(hc:jo c)(hS:cS ro v S)(hO:e8 S):eI zT 168 [.agg ⟨[v]⟩,.agg ⟨kB c⟩] ro [] (fun r Y=>∃rm F LM Z,r= .tuple ⟨[.map (some rm),zI 0]⟩∧Y=LM++Z∧jO rm oF F LM∧F.map (·.1)=bG S∧MV Z F (yc S c)):=by
 simp only[jo,List.mem_cons,List.not_mem_nil,or_false] at hc
 rcases hc with rfl|rfl|rfl|rfl|rfl
 ·exact aEQ hS hO
 ·exact aEP hS hO
 ·exact aEO hS hO
 ·exact aEN hS hO
 exact aEM hS hO
def It(ro:Nat→Option Obj)(b:Nat)(S:List (List ah))(ways:List (List aQ)):Prop:=∃vS vT vH fa fc,ro b=some (.cells ⟨[vS,vT,.slice fa 0 fc,vH]⟩ 177 (0,0))∧cS ro vS S∧nH ro vT ways∧bL ro vH 3 cI (bG S)
theorem It.up{ro:Nat→Option Obj}{S:List (List ah)}(h:It ro b S ways)(hs:Sub ro aK):It aK b S ways:=by
 obtain⟨vS,vT,vH,fa,fc,h1,h2,h3,h4⟩:=h
 exact⟨vS,vT,vH,fa,fc,hs _ _ h1,h2.up hs,h3.up hs,h4.up hs⟩
theorem aut{fa:Option Addr}{S:List (List ah)}{ro:Nat→Option Obj}(hS:cS ro vS S)(hO:e8 S)(hT:nH ro vT ways)(hW:xF ways):eI zT 117 [.agg ⟨[vS,vT,.slice fa 0 fc]⟩] ro [] (fun r Y=>∃b vH LH,r= .tuple ⟨[zP b,zI 0]⟩∧Y=(b,.cells ⟨[vS,vT,.slice fa 0 fc,vH]⟩ 177 (0,0))::LH∧aD vH 3 144 cI (bG S) LH):=by
 have xv:=hS
 obtain⟨ib,hs,fw⟩:=hS
 obtain⟨mg,RV,RS,kU,rfl,RU,Kv,Ku⟩:=hs
 obtain⟨iI,ht,fo⟩:=id hT
 obtain⟨eY,zh,zf,ee,rfl,zg,rH,rG⟩:=ht
 have Hy:=fw.len
 have Dr:=fo.len
 have H6:=hO.two
 have Aa:=hW.one
 have M0:∀(i:Nat) (p:cX),([]:List cX)[i]?=some p→cA ⟨ro,[]⟩ 0 (0+i*6) 6 (mH p):=fun _ _ h=>n9 h
 refine bI av [] [] bB<|zD 2<|jn fun b1=>jd 8 [0]<|jp (vs:=[.agg ⟨[.slice mg ib.length kU]⟩]) [] [] (fun aE hs hZ=>aus (xv.up hs) hO)<|jd 17 [0]<|zJ 21 ((iI.length:Int)>3) (fun h1=>?_) fun h1=>?_
 ·
  exfalso;omega
 refine jd 11 [0]<|eG [1,1,1,0,1,0,0] [] (fun(zz:Nat)=>[(1,zP b1),(23,.slice eY iI.length ee),(24,zI (iI.length:Int)),(25,zI (zz:Int))]) (fun(zz:Nat)=>[.b b1 (.cells ⟨[.slice mg ib.length kU,.slice eY iI.length ee,.slice fa 0 fc]⟩ 29 (0,0))]) (fun(zz:Nat)=>zz≤iI.length) (fun(zz:Nat)=>iI.length-zz) 0 (by omega) [0] ?_
 rintro k hI K1 bU rest
 refine zD 5<|zJ 26 ((k:Int) <(iI.length:Int)) (fun h2=>?_) fun h2=>?_
 ·
  refine zD 6 ?_
  obtain⟨x27,H5⟩:=zG iI k
  refine iE ee 1 rH H5 ?_
  obtain⟨l28,aPz,YN⟩:=fo.get H5
  obtain asE:=hW.ok _ (List.mem_of_getElem? aPz)
  obtain⟨ayt,baG,baE,aqo,rfl,baF,aMi,aMh⟩:=YN
  refine jl 0 (rG _ _ H5)<|jn fun b6=>jd 10 [0,0]<|zJ 32 ((l28.length:Int)=0) (fun h3=>?_) fun h3=>?_
  ·
   exfalso;omega
  refine jd 10 [0]<|zJ 36 ((l28.length:Int)>3) (fun h4=>?_) fun h4=>?_
  ·
   exfalso;omega
  refine jd 10 [0]<|eG [1,1,1,0,1,0,0,1,1,0,0,1,1,1,1,0,0] [K1] (fun(zz:Nat)=>[(1,zP b1),(23,.slice eY iI.length ee),(24,zI (iI.length:Int)),(25,zI (k:Int)),(38,.slice ayt l28.length aqo),(39,zI (l28.length:Int)),(40,zI (zz:Int))]) (fun(zz:Nat)=>[.b b6 (.cells ⟨[.slice ayt l28.length aqo]⟩ 78 (0,0)),.b b1 (.cells ⟨[.slice mg ib.length kU,.slice eY iI.length ee,.slice fa 0 fc]⟩ 29 (0,0))]) (fun(zz:Nat)=>zz≤l28.length) (fun(zz:Nat)=>l28.length-zz) 0 (by omega) [0,1] ?_
  rintro i hJ K2 lL rest
  refine zD 5<|zJ 41 ((i:Int) <(l28.length:Int)) (fun h5=>?_) fun h5=>?_
  ·
   refine zD 6 ?_
   obtain⟨x42,SH⟩:=zG l28 i
   refine iE aqo 7 aMi SH<|jl 0 (aMh _ _ SH)<|jn fun b8=>jd 3 [0] ?_
   have V7:=aFc (asE.2 _ (List.mem_of_getElem? SH))
   refine jd 3 [0]<|jp (vs:=[zI x42.k,zI 1,zI 7]) [] [] (fun aE hs hZ=>Ai)<|zD 2<|js 47 (!(iV x42.k 1 7)) (fun h6=>?_) (fun h6=>?_)
   ·
    try simp only[zB] at h6
    exfalso;simp only[iV,Bool.and_eq_false_iff,decide_eq_false_iff_not] at h6;omega
   try simp only[zB] at h6
   refine zD 3<|ja ((i:Int)+1) (by omega)<|zD 2<|bO lL (i+1) (by omega) (by omega) [1,2] (Sub.refl _)
  refine zD 3<|ja ((k:Int)+1) (by omega)<|zD 2<|bO bU (k+1) (by omega) (by omega) [1] (Sub.refl _)
 refine jd 17 [0,0,0]<|aN 3 fun qZ q6 p7=>jc (vs:=[.agg ⟨[.slice mg ib.length kU]⟩]) [] (Wk xv hO) ?_
 rintro v57 L57 akI
 obtain⟨aiO,aiM,aeN⟩:=akI.form
 subst aeN
 refine bD p7 [1]<|zD 1<|aN 5 fun rK rR qz=>jn fun b59=>bD qz [1,2]<|jd 11 [2]<|eG [1,1,1,1,1,1,0,1,0,0] [] (fun(zz:Nat)=>[(1,zP b1),(9,zP b59),(61,.slice fa 0 fc),(62,zI 0),(63,zI 0)]) (fun(zz:Nat)=>[.b b59 (.cells ⟨[.slice mg ib.length kU,.slice eY iI.length ee,.slice fa 0 fc,(.slice aiO (bG S).length aiM)]⟩ 177 (0,0)),.l L57,.b b1 (.cells ⟨[.slice mg ib.length kU,.slice eY iI.length ee,.slice fa 0 fc]⟩ 29 (0,0))]) (fun(zz:Nat)=>True) (fun(zz:Nat)=>zz) 0 trivial [0,1,2] ?_
 rintro z hQ K5 hK5 rest
 refine zD 14<|aJ q0 (.tuple ⟨[zP b59,zI 0]⟩) [] [0,1] ((b59,.cells ⟨[.slice mg ib.length kU,.slice eY iI.length ee,.slice fa 0 fc,(.slice aiO (bG S).length aiM)]⟩ 177 (0,0))::L57) (Sub.refl _) ⟨_,_,rfl,rfl,_,_,_,rfl,rfl,akI⟩
structure Zy(ro:Nat→Option Obj)(bl b b1 b2 b3:Nat):Prop where
 t:ro b1=some (.cells ⟨[zP b]⟩ 172 (0,0))
 y:ro b2=some (.cells ⟨[.func (.yield bl) #[] #[]]⟩ 258 (0,0))
 g:ro b3=some (.cells ⟨[.func (.func 166) ⟨[]⟩ ⟨[zP b1,zP b2,zP b3]⟩]⟩ 258 (0,0))
theorem Zy.up{ro:Nat→Option Obj}(h:Zy ro bl b b1 b2 b3)(hs:Sub ro aK):Zy aK bl b b1 b2 b3:=⟨hs _ _ h.t,hs _ _ h.y,hs _ _ h.g⟩
theorem aEK{t:Ug}{S:List (List ah)}{ro:Nat→Option Obj}(HE:It ro b S ways):dL zT 167 [zP b,.agg ⟨[.slice t.a t.n t.c,.slice t.ea t.en t.ec,(.map (some t.r))]⟩] ro (.bool true):=by
 obtain⟨vS,vT,vH,fa,fc,gb,hS,hT,hHs⟩:=HE
 have xv:=hS
 obtain⟨ib,hs,fw⟩:=hS
 obtain⟨mg,RV,RS,kU,rfl,RU,Kv,Ku⟩:=hs
 obtain⟨iI,ht,fo⟩:=id hT
 obtain⟨eY,zh,zf,ee,rfl,zg,rH,rG⟩:=ht
 have Hy:=fw.len
 have Dr:=fo.len
 have M0:∀(i:Nat) (p:cX),([]:List cX)[i]?=some p→cA ⟨ro,[]⟩ 0 (0+i*6) 6 (mH p):=fun _ _ h=>n9 h
 refine bI av [] [] bB<|zD 2<|jn fun b3=>zD 9<|jl (b:=b) (off:=0) (m:=4) (vs:=[.slice mg ib.length kU,.slice eY iI.length ee,.slice fa 0 fc,vH]) 2 ⟨_,_,_,.inl gb,rfl⟩<|zD 4<|eG [1,0,1,0,0] [] (fun(zz:Nat)=>[(3,zP b3),(11,.slice fa 0 fc),(12,zI 0),(13,zI 0)]) (fun(zz:Nat)=>[.b b3 (.cells ⟨[.slice t.a t.n t.c,.slice t.ea t.en t.ec,(.map (some t.r))]⟩ 181 (0,0))]) (fun(zz:Nat)=>True) (fun(zz:Nat)=>zz) 0 trivial [0] ?_
 rintro z hI K1 bU rest
 refine zD 12<|aJ q0 (.bool true) [] [] [] (Sub.refl _) ⟨_,_,rfl,rfl,rfl,rfl⟩
theorem afY{ro:Nat→Option Obj}:eI zT 118 [zP b] ro [] (fun r Y=>∃b1,r= .func (.func 165) ⟨[]⟩ ⟨[zP b1]⟩∧Y=[(b1,.cells ⟨[zP b]⟩ 172 (0,0))]):=by
 refine bI av [] [] bB<|zD 2<|jn fun b1=>zD 8<|aJ q0 (.func (.func 165) ⟨[]⟩ ⟨[zP b1]⟩) [] [0] [(b1,.cells ⟨[zP b]⟩ 172 (0,0))] (Sub.refl _) ⟨_,_,rfl,rfl,_,rfl,rfl⟩
theorem af0{S:List (List ah)}{L:List TrD}{Inv:Nat→Cells→Prop}{t:Ug}{x:TrD}{k:Nat}{LL:Cells}{ro:Nat→Option Obj}(HE:It ro b S ways)(hC:Zy ro bl b b1 b2 b3)(hn:t.n=ways.length)(hx:L[k]?=some x) (hR:TrO (bG S) LL t x) (hB:Inv k B) (hy:Zx zT bl ro L.length (alE (bG S) L) Inv Stop):eI zT 166 [.agg ⟨[.slice t.a t.n t.c,.slice t.ea t.en t.ec,(.map (some t.r))]⟩,zP b1,zP b2,zP b3] ro (LL++B) (fun r Y=>∃c,r= .bool c∧(c=true→Inv (k+1) Y)∧(c=false→Stop Y)):=by
 have ak9:=HE
 obtain⟨vS,vT,vH,fa,fc,gb,hS,hT,hHs⟩:=HE
 have xv:=hS
 obtain⟨ib,hs,fw⟩:=hS
 obtain⟨mg,RV,RS,kU,rfl,RU,Kv,Ku⟩:=hs
 obtain⟨iI,ht,fo⟩:=id hT
 obtain⟨eY,zh,zf,ee,rfl,zg,rH,rG⟩:=ht
 have Hy:=fw.len
 have Dr:=fo.len
 have M0:∀(i:Nat) (p:cX),([]:List cX)[i]?=some p→cA ⟨ro,[]⟩ 0 (0+i*6) 6 (mH p):=fun _ _ h=>n9 h
 refine bI av [.l LL,.l B] [] bB<|zD 2<|jn fun b4=>jd 13 [0]<|jl (b:=b1) (off:=0) (m:=1) (vs:=[zP b]) 0 ⟨_,_,_,.inl hC.t,rfl⟩<|zD 3<|jl (b:=b) (off:=0) (m:=4) (vs:=[.slice mg ib.length kU,.slice eY iI.length ee,.slice fa 0 fc,vH]) 1 ⟨_,_,_,.inl gb,rfl⟩<|zD 3<|zJ 21 ((t.n:Int)=(iI.length:Int)) (fun h1=>?_) fun h1=>?_
 ·
  refine zD 3<|jl (b:=b1) (off:=0) (m:=1) (vs:=[zP b]) 0 ⟨_,_,_,.inl hC.t,rfl⟩<|jd 1 [0]<|jp (vs:=[zP b,.agg ⟨[.slice t.a t.n t.c,.slice t.ea t.en t.ec,(.map (some t.r))]⟩]) [] [] (fun aE hs hZ=>aEK (t:=t) (ak9.up hs))<|zD 2<|jl (b:=b2) (off:=0) (m:=1) (vs:=[(.func (.yield bl) #[] #[])]) 0 ⟨_,_,_,.inl hC.y,rfl⟩<|jd 1 [0]<|jyc [1,2] (hy k [.agg ⟨[.slice t.a t.n t.c,.slice t.ea t.en t.ec,(.map (some t.r))]⟩] LL B ro (List.getElem?_eq_some_iff.1 hx).1 ⟨x,t,hx,rfl,hR⟩ hB (Sub.refl _)) (Sub.refl _) ?_
  intro v29 Y29 aN1
  obtain⟨c29,rfl,aQF,aQt⟩:=yb aN1
  refine zD 4<|aJ q0 (.bool c29) [] [0] Y29 (Sub.refl _) ⟨_,_,rfl,rfl,_,rfl,aQF,aQt⟩
 exfalso;omega
theorem aSB{S:List (List ah)}{l:List aQ}{Inv:Nat→Cells→Prop}{ea:Option Addr}{r0:Nat}{es0:Array MapEntry}{F0:List (an×Value)}{ro:Nat→Option Obj}(HE:It ro b S [l])(hO:e8 S)(hW:xF [l])(hC:Zy ro bl b b1 b2 b3)(hE:∀aK,Knows aK LE→cS aK (.slice ea en ec) S)(hE0:sR oF F0 es0 ck0)(hk0:F0.map (·.1)=bG S)(hM0:MV Z F0 id)(hB:Inv 0 B)(hy:Zx zT bl ro (cY S [l]).length (alE (bG S) (cY S [l])) Inv Stop):eI zT 166 [.agg ⟨[zS,.slice ea en ec,(.map (some r0))]⟩,zP b1,zP b2,zP b3] ro (LE++(r0,.map es0 ck0)::(Z++B)) (fun r Y=>∃c,r= .bool c∧(c=true→Inv l.length Y)∧(c=false→Stop Y)):=by
 have ak9:=HE
 obtain⟨vS,vT,vH,fa,fc,gb,hS,hT,hHs⟩:=HE
 have xv:=hS
 obtain⟨ib,hs,fw⟩:=hS
 obtain⟨w1,w2,rfl⟩:=pG (fw.len.trans hO.two)
 obtain⟨mg,RV,RS,kU,rfl,RU,Kv,Ku⟩:=hs
 obtain⟨iI,ht,fo⟩:=id hT
 obtain⟨eY,zh,zf,ee,rfl,zg,rH,rG⟩:=ht
 have Dr:=fo.len
 have M0:∀(i:Nat) (p:cX),([]:List cX)[i]?=some p→cA ⟨ro,[]⟩ 0 (0+i*6) 6 (mH p):=fun _ _ h=>n9 h
 refine bI av [.l LE,.b r0 (.map es0 ck0),.l Z,.l B] [] bB<|zD 2<|jn fun b4=>zD 1<|jf [1,2,3] (LE++((r0,.map es0 ck0)::Z)) (fun AR cy ju=>?_)
 have hE1:=hE _ (Knows.left ju)
 have HF:Qs AR r0 (bG S) id es0 ck0 F0:=⟨Knows.right ju _ (.head _),hE0,hk0,hM0 _ (Knows.tail (Knows.right ju))⟩
 refine jd 12 [0]<|jl (b:=b1) (off:=0) (m:=1) (vs:=[zP b]) 0 ⟨_,_,_,.inl (cy _ _ hC.t),rfl⟩<|zD 3<|jl (b:=b) (off:=0) (m:=4) (vs:=[.slice mg 2 kU,.slice eY iI.length ee,.slice fa 0 fc,vH]) 1 ⟨_,_,_,.inl (cy _ _ gb),rfl⟩<|zD 3<|zJ 21 (0=(iI.length:Int)) (fun h4=>?_) fun h4=>?_
 ·
  exfalso;simp at Dr;omega
 refine zD 4 ?_
 have V0:iI.length=1:=Dr
 refine zD 1<|jl (b:=b1) (off:=0) (m:=1) (vs:=[zP b]) 0 ⟨_,_,_,.inl (cy _ _ hC.t),rfl⟩<|zD 3<|jl (b:=b) (off:=0) (m:=4) (vs:=[.slice mg 2 kU,.slice eY iI.length ee,.slice fa 0 fc,vH]) 1 ⟨_,_,_,.inl (cy _ _ gb),rfl⟩<|zD 1 ?_
 obtain⟨x37,Yp⟩:=zG iI 0
 refine iE ee 1 rH Yp<|zD 1 ?_
 obtain⟨l39,aA1,ZX⟩:=fo.get Yp
 obtain aPs:=hW.ok _ (List.mem_of_getElem? aA1)
 obtain aeQ:l39=l:=Option.some.inj (aA1.symm.trans rfl)
 obtain⟨aMf,baA,bay,ayp,rfl,baz,aMe,aMd⟩:=ZX
 refine jl 0 ((rG _ _ Yp).ext (tM cy))<|zD 4<|eG [1,1,1,0,1,0,0] [] (fun(zz:Nat×Cells)=>[(1,zP b1),(3,zP b3),(4,zP b4),(39,.slice aMf l39.length ayp),(40,zI (l39.length:Int)),(41,zI (zz.1:Int))]) (fun(zz:Nat×Cells)=>[.l zz.2,.b b4 (.cells ⟨[zS,.slice ea en ec,(.map (some r0))]⟩ 181 (0,0))]) (fun(zz:Nat×Cells)=>zz.1≤l39.length∧Inv zz.1 zz.2) (fun(zz:Nat×Cells)=>l39.length-zz.1) (⟨0,B⟩) ⟨by dsimp only;omega,hB⟩ [1,0] ?_
 rintro⟨i,B⟩ hI K1 bU rest
 dsimp only at hI
 refine zD 5<|zJ 42 ((i:Int) <(l39.length:Int)) (fun h5=>?_) fun h5=>?_
 ·
  refine zD 7 ?_
  obtain⟨W9,H4⟩:=zG l39 i
  refine iE ayp 7 aMe H4<|jl 0 ((aMd _ _ H4).ext (tM cy))<|jn fun b8=>jd 4 [0] ?_
  have hco:=aPs.2 _ (List.mem_of_getElem? H4)
  refine jd 4 [2,0]<|jc (vs:=[.agg ⟨[.slice ea en ec]⟩,.agg ⟨[zI W9.k,zI W9.st,zI W9.ot,zI W9.fn,zI W9.fl,zI W9.tn,zI W9.tl]⟩]) [] (aSF (c:=W9) hco (hE1.up (Sub.refl _)) hO) ?_
  rintro _ _ ⟨r9,F9,LM9,Z9,rfl,rfl,hm9,hk9,hM9⟩
  obtain⟨es9,ck9,rfl,hE9⟩:=hm9
  refine jg 0 [.b r9 (.map es9 ck9),.l Z9]<|zD 5<|jf [0,1] ((r9,.map es9 ck9)::Z9) (fun ro8 yl hk7=>?_)
  have hP2:Qs ro8 r9 (bG S) (yc S W9) es9 ck9 F9:=⟨hk7 _ (.head _),hE9,hk9,hM9 _ (Knows.tail hk7)⟩
  refine zD 11<|jl (b:=b3) (off:=0) (m:=1) (vs:=[.func (.func 166) ⟨[]⟩ ⟨[zP b1,zP b2,zP b3]⟩]) 0 ⟨_,_,_,.inl (yl _ _ (cy _ _ hC.g)),rfl⟩<|jd 4 [2]<|jl (b:=b1) (off:=0) (m:=1) (vs:=[zP b]) 0 ⟨_,_,_,.inl (yl _ _ (cy _ _ hC.t)),rfl⟩<|zD 4<|jl (b:=b) (off:=0) (m:=4) (vs:=[.slice mg 2 kU,.slice eY iI.length ee,.slice fa 0 fc,vH]) 0 ⟨_,_,_,.inl (yl _ _ (cy _ _ gb)),rfl⟩<|jd 4 [2]<|mO [3,5] ⟨fun z2 t3 qz=>?_,fun z5 t6 Ti=>?_,trivial⟩
  ·
   refine jc (vs:=[zS]) [] (aER (bL.nil _ _ _ _ _) (by simp)) ?_
   rintro v58 L58 aeo
   obtain⟨Re,Q9,Gf⟩:=aeo.form
   subst Gf
   refine bD qz [1,2,3]<|aN 5 fun W8 Xj YK=>jn fun b60=>bD YK [1,2,3,4]<|aN 6 fun W7 Xi Tg=>jk (sz:=1) (ps:=([]:List Int)) (qs:=[(i:Int)]) (enc:=db) (w:= .slice (some ⟨b60,0,none⟩) 1 1) [1] [0] [(b60,.cells ⟨([(i:Int)].map db).flatten⟩ 3 (0,0))] (aeo) (fun s _ hZ=>cg [(i:Int)] (hZ _ (.head _)) (by intro p hp;rfl)) (fun p _=>aj rfl) (by simp only[List.length_cons,List.length_nil];omega) (fun v61 L61 FV=>?_)
   obtain⟨aaz,aas,atd⟩:=FV.form
   subst atd
   refine gX Tg [[4],[],[],[]]<|aN 15 fun Ek EG vw=>jc (vs:=[(.map (some r9)),zI 2]) [] (af5 (hP2.up (Sub.refl _)) (tK hO) (fun x hx=>acF hco (Pg hO (by rw[←hk9];exact List.mem_map_of_mem (f:=(·.1)) hx)))) ?_
   rintro _ L70 ⟨a70,n70,c70,rfl⟩
   refine bD vw [1,2,3,4,5]<|aN 19 fun Iw IB BQ=>jc (vs:=[(.map (some r0)),(.map (some r9))]) [] (aoc (HF.up yl) (hP2.up (Sub.refl _))) ?_
   rintro _ _ ⟨r74,F74,aTU,Z74,rfl,rfl,asD,asY,atQ⟩
   obtain⟨Mm,My,rfl,auc⟩:=asD
   refine jg 0 [.b r74 (.map Mm My),.l Z74]<|bD BQ [2,3,4,5,6,7]<|zD 1<|aN 21 fun Nn NI BP=>jc (vs:=[.agg ⟨[(.slice aaz ((([]:List Int)++[(i:Int)])).length aas),.slice a70 n70 c70,(.map (some r74))]⟩,zP b1,zP b2,zP b3]) [3,0,1,6] ((show eI _ _ _ _ (L61++(r74,.map Mm My)::(Z74++B)) _ from by have:=af0 (t:=⟨aaz,((([]:List Int)++[(i:Int)])).length,aas,a70,n70,c70,r74⟩) (LL:=L61++(r74,.map Mm My)::Z74) (ak9.up (cy.trans yl)) (hC.up (cy.trans yl)) rfl (Iy (by rw[←aeQ];exact H4)) (fun aK hk=>⟨by simpa using FV.lq (Knows.left hk),Mm,My,F74,(Knows.right hk) _ (.head _),auc,asY,fun y hy=>atQ aK (Knows.tail (Knows.right hk)) y hy⟩) hI.2 (hy.up (cy.trans yl));rwa[List.append_assoc,List.cons_append] at this)) ?_
   rintro _ Y76 ⟨c76,rfl,atz,att⟩
   refine gX BP [[],[]]<|zD 2<|js 77 (!c76) (fun Dw=>?_) (fun Dw=>?_)
   ·
    try simp only[zB] at Dw
    refine zD 6<|aJ q0.a.a (.bool false) [] [0] Y76 (cy.trans yl) ⟨_,_,rfl,rfl,_,rfl,nofun,fun _=>att (by simp_all)⟩
   try simp only[zB] at Dw
   refine zD 3<|ja ((i:Int)+1) (by omega)<|zD 2<|bO bU (⟨i+1,Y76⟩) ⟨by dsimp only;omega,atz (by simp_all)⟩ (by dsimp only;omega) [0,4] yl
  refine jn fun b60=>bD Ti [1,2,3]<|aN 3 fun amt amP LY=>jc (vs:=[zS]) [] (aER (bL.nil _ _ _ _ _) (by simp)) ?_
  rintro v58 L58 aeo
  obtain⟨Re,Q9,Gf⟩:=aeo.form
  subst Gf
  refine bD LY [1,2,3,4]<|aN 6 fun awt axn at3=>jk (sz:=1) (ps:=([]:List Int)) (qs:=[(i:Int)]) (enc:=db) (w:= .slice (some ⟨b60,0,none⟩) 1 1) [0] [1] [(b60,.cells ⟨([(i:Int)].map db).flatten⟩ 3 (0,0))] (aeo) (fun s _ hZ=>cg [(i:Int)] (hZ _ (.head _)) (by intro p hp;rfl)) (fun p _=>aj rfl) (by simp only[List.length_cons,List.length_nil];omega) (fun v61 L61 FV=>?_)
  obtain⟨aaz,aas,atd⟩:=FV.form
  subst atd
  refine gX at3 [[4],[],[],[]]<|aN 15 fun aUw aU7 at2=>jc (vs:=[(.map (some r9)),zI 2]) [] (af5 (hP2.up (Sub.refl _)) (tK hO) (fun x hx=>acF hco (Pg hO (by rw[←hk9];exact List.mem_map_of_mem (f:=(·.1)) hx)))) ?_
  rintro _ L70 ⟨a70,n70,c70,rfl⟩
  refine bD at2 [1,2,3,4,5]<|aN 19 fun aUv aU6 PD=>jc (vs:=[(.map (some r0)),(.map (some r9))]) [] (aoc (HF.up yl) (hP2.up (Sub.refl _))) ?_
  rintro _ _ ⟨r74,F74,aTU,Z74,rfl,rfl,asD,asY,atQ⟩
  obtain⟨Mm,My,rfl,auc⟩:=asD
  refine jg 0 [.b r74 (.map Mm My),.l Z74]<|bD PD [2,3,4,5,6,7]<|zD 1<|aN 21 fun ams amO Gn=>jc (vs:=[.agg ⟨[(.slice aaz ((([]:List Int)++[(i:Int)])).length aas),.slice a70 n70 c70,(.map (some r74))]⟩,zP b1,zP b2,zP b3]) [3,0,1,6] ((show eI _ _ _ _ (L61++(r74,.map Mm My)::(Z74++B)) _ from by have:=af0 (t:=⟨aaz,((([]:List Int)++[(i:Int)])).length,aas,a70,n70,c70,r74⟩) (LL:=L61++(r74,.map Mm My)::Z74) (ak9.up (cy.trans yl)) (hC.up (cy.trans yl)) rfl (Iy (by rw[←aeQ];exact H4)) (fun aK hk=>⟨by simpa using FV.lq (Knows.left hk),Mm,My,F74,(Knows.right hk) _ (.head _),auc,asY,fun y hy=>atQ aK (Knows.tail (Knows.right hk)) y hy⟩) hI.2 (hy.up (cy.trans yl));rwa[List.append_assoc,List.cons_append] at this)) ?_
  rintro _ Y76 ⟨c76,rfl,atz,att⟩
  refine gX Gn [[],[]]<|zD 2<|js 77 (!c76) (fun Ef=>?_) (fun Ef=>?_)
  ·
   try simp only[zB] at Ef
   refine zD 6<|aJ q0.a.a (.bool false) [] [0] Y76 (cy.trans yl) ⟨_,_,rfl,rfl,_,rfl,nofun,fun _=>att (by simp_all)⟩
  try simp only[zB] at Ef
  refine zD 3<|ja ((i:Int)+1) (by omega)<|zD 2<|bO bU (⟨i+1,Y76⟩) ⟨by dsimp only;omega,atz (by simp_all)⟩ (by dsimp only;omega) [0,4] yl
 refine zD 7<|aJ q0.a (.bool true) [] [0] B cy ⟨_,_,rfl,rfl,_,rfl,(fun _=>by have:=hI.2;rwa[show i=l.length by rw[←aeQ];omega] at this),nofun⟩
theorem aEJ{S:List (List ah)}{Inv:Nat→Cells→Prop}{ea:Option Addr}{r0:Nat}{es0:Array MapEntry}{F0:List (an×Value)}{ro:Nat→Option Obj}(HE:It ro b S ways)(hO:e8 S)(hW:xF ways)(hC:Zy ro bl b b1 b2 b3)(hE:∀aK,Knows aK LE→cS aK (.slice ea en ec) S)(hE0:sR oF F0 es0 ck0)(hk0:F0.map (·.1)=bG S)(hM0:MV Z F0 id)(hB:Inv 0 B)(hy:Zx zT bl ro (cY S ways).length (alE (bG S) (cY S ways)) Inv Stop):
 eI zT 166 [.agg ⟨[zS,.slice ea en ec,.map (some r0)]⟩,zP b1,zP b2,zP b3] ro (LE++(r0,.map es0 ck0)::(Z++B)) (fun r Y=>∃c,r= .bool c∧(c=true→Inv (cY S ways).length Y)∧(c=false→Stop Y)):=by
 match ways,hW with
 | [],_=>
  have:=af0 (t:=⟨none,0,0,ea,en,ec,r0⟩) (x:=⟨[],id⟩) (k:=0) (LL:=LE++(r0,.map es0 ck0)::Z) HE hC rfl rfl (fun aK hk=>⟨bL.nil _ _ _ _ _,es0,ck0,F0,(Knows.right hk) _ (.head _),hE0,fun h hh=>by rw[hk0];exact hh,hM0 _ (Knows.tail (Knows.right hk))⟩) hB hy
  rwa[List.append_assoc,List.cons_append] at this
 | [l],hW=>
  refine(aSB HE hO hW hC hE hE0 hk0 hM0 hB hy).mono fun _ _ ⟨c,h1,h2,h3⟩=>⟨c,h1,fun h=>?_,h3⟩
  rw[show (cY S [l]).length=l.length by simp[cY]]
  exact h2 h
 |_::_::_,hW=>exact absurd hW.one (by simp)
theorem YS{S:List (List ah)}{ro:Nat→Option Obj}(g1:ro b1=some (.cells ⟨[zP b]⟩ 172 (0,0)))(HE:It ro b S ways)(hO:e8 S)(hW:xF ways):ItX zT 165 [] [zP b1] ro [] (cY S ways).length (alE (bG S) (cY S ways)) (fun Z=>Z=[]):=by
 intro bl aE Inv Stop hs hy B hB
 replace g1:=hs _ _ g1
 replace HE:=HE.up hs
 have aRh:=HE
 obtain⟨vS,vT,vH,fa,fc,gb,hS,hT,hHs⟩:=HE
 have xv:=hS
 obtain⟨ib,pY,fw⟩:=hS
 obtain⟨ajf,bak,baf,aje,rfl,bai,baj,bah⟩:=pY
 obtain⟨iI,ht,fo⟩:=id hT
 obtain⟨eY,zh,zf,ee,rfl,zg,rH,rG⟩:=ht
 have M0:∀(i:Nat) (p:cX),([]:List cX)[i]?=some p→cA ⟨aE,[]⟩ 0 (0+i*6) 6 (mH p):=fun _ _ h=>n9 h
 refine bI av [.l B] [] bB<|zD 2<|jn fun b2=>zD 3<|jn fun b3=>jd 5 [0]<|jf [1,0] ((b2,.cells ⟨[(.func (.yield bl) #[] #[])]⟩ 258 (0,0))::[(b3,.cells ⟨[.func (.func 166) ⟨[]⟩ ⟨[zP b1,zP b2,zP b3]⟩]⟩ 258 (0,0))]) fun AR cy ju=>zD 2<|jl (b:=b3) (off:=0) (m:=1) (vs:=[.func (.func 166) ⟨[]⟩ ⟨[zP b1,zP b2,zP b3]⟩]) 0 ⟨_,_,_,.inl (ju _ (.tail _ (.head _))),rfl⟩<|jl (b:=b1) (off:=0) (m:=1) (vs:=[zP b]) 0 ⟨_,_,_,.inl (cy _ _ g1),rfl⟩<|zD 3<|jl (b:=b) (off:=0) (m:=4) (vs:=[.slice ajf ib.length aje,.slice eY iI.length ee,.slice fa 0 fc,vH]) 0 ⟨_,_,_,.inl (cy _ _ gb),rfl⟩<|jl (b:=b1) (off:=0) (m:=1) (vs:=[zP b]) 0 ⟨_,_,_,.inl (cy _ _ g1),rfl⟩<|zD 3<|jl (b:=b) (off:=0) (m:=4) (vs:=[.slice ajf ib.length aje,.slice eY iI.length ee,.slice fa 0 fc,vH]) 0 ⟨_,_,_,.inl (cy _ _ gb),rfl⟩<|aN 6 fun C1 C7 AT=>jc (vs:=[.agg ⟨[.slice ajf ib.length aje]⟩]) [] (alv (xv.up cy) hO) ?_
 rintro _ L11 ⟨a11,n11,c11,rfl,aR4⟩
 refine bD AT [1]<|aN 12 fun AY A5 Ah=>jc (vs:=[.agg ⟨[.slice ajf ib.length aje]⟩]) [] (JC (xv.up cy) hO) ?_
 rintro _ _ ⟨r17,F17,be9,Z17,rfl,rfl,asG,YF,aRr⟩
 obtain⟨aSS,aS5,rfl,aR3⟩:=asG
 refine jg 0 [.b r17 (.map aSS aS5),.l Z17]<|bD Ah [2,3]<|zD 1<|aN 14 fun qZ q6 p7=>jc (vs:=[.agg ⟨[zS,.slice a11 n11 c11,(.map (some r17))]⟩,zP b1,zP b2,zP b3]) [2,0,1,3] (aEJ (aRh.up cy) hO hW ⟨(cy _ _ g1),ju _ (.head _),ju _ (.tail _ (.head _))⟩ aR4 aR3 YF aRr hB (Zx.up hy cy)) ?_
 rintro _ Y19 ⟨c19,rfl,aQI,aQw⟩
 refine gX p7 [[],[]]<|zD 1<|aJ q0.a (.tuple ⟨[]⟩) [] [0] Y19 cy ⟨_,_,rfl,rfl,[],Y19,rfl,rfl,by cases c19 with|true=>exact .inl (aQI rfl)|false=>exact .inr (aQw rfl)⟩
theorem ED{S:List (List ah)}(hW:xF ways):(cY S ways).length≤3:=by
 match ways,hW with
 | [],_=>simp[cY]
 |l::_,hW=>
  have:=(hW.ok l (by simp)).1.2
  simpa [cY] using this
theorem af4{fa:Option Addr}{S:List (List ah)}{ro:Nat→Option Obj}(hS:cS ro vS S)(hO:e8 S)(hT:nH ro vT ways)(hW:xF ways):FnG zT 91 [.agg ⟨[vS,vT,.slice fa 0 fc]⟩] ro [] (fun r aE Y=>∃b vl ts Lt Z,r= .tuple ⟨[zP b,vl,zI 0]⟩∧It aE b S ways∧Y=Lt++Z∧aD vl 3 181 agE ts Lt∧ts.length=(cY S ways).length∧∀aK,Knows aK Z→du (TrR (bG S) aK) ts (cY S ways)):=by
 have xv:=hS
 obtain⟨ib,hs,fw⟩:=hS
 obtain⟨mg,RV,RS,kU,rfl,RU,Kv,Ku⟩:=hs
 obtain⟨iI,ht,fo⟩:=id hT
 obtain⟨eY,zh,zf,ee,rfl,zg,rH,rG⟩:=ht
 have Hy:=fw.len
 have Dr:=fo.len
 have H6:=hO.two
 have Aa:=hW.one
 have M0:∀(i:Nat) (p:cX),([]:List cX)[i]?=some p→cA ⟨ro,[]⟩ 0 (0+i*6) 6 (mH p):=fun _ _ h=>n9 h
 refine azD (hm:=av) [] [] bB<|zD 2<|jn fun b1=>jd 7 [0]<|jc (vs:=[.agg ⟨[.slice mg ib.length kU,.slice eY iI.length ee,.slice fa 0 fc]⟩]) [] (aut xv hO hT hW) ?_
 rintro _ _ ⟨Q0,awV,aF3,rfl,rfl,asu⟩
 refine jg 0 [.b Q0 (.cells ⟨[.slice mg ib.length kU,.slice eY iI.length ee,.slice fa 0 fc,awV]⟩ 177 (0,0)),.l aF3]<|zD 5<|jf [0,1] ((Q0,.cells ⟨[.slice mg ib.length kU,.slice eY iI.length ee,.slice fa 0 fc,awV]⟩ 177 (0,0))::aF3) (fun AR cy ju=>?_)
 have HE:It AR Q0 S ways:=⟨_,_,_,_,_,ju _ (.head _),xv.up cy,hT.up cy,asu.lq (Knows.tail ju)⟩
 refine zD 10 ?_
 have hLn:(cY S ways).length≤3:=ED hW
 refine zD 1<|jn fun b7=>zD 5<|jc (vs:=[zP Q0]) [] (afY) ?_
 rintro _ _ ⟨ank,rfl,rfl⟩
 refine jg 0 [.b ank (.cells ⟨[zP Q0]⟩ 172 (0,0))]<|jf [0] [(ank,.cells ⟨[zP Q0]⟩ 172 (0,0))] fun ro6 kN ZO=>zD 2<|oU<|oU<|jrf [] (YS (ZO _ (.head _)) (HE.up kN) hO hW) (by rintro _ _ _ _ ⟨_,_,_,rfl,_⟩;rfl) (fun(zz:Value×Cells×(List Ug)×Cells)=>[.b b7 (.cells ⟨[zz.1]⟩ 173 (0,0)),.l zz.2.1,.l zz.2.2.2]) (fun kk=>(fun(zz:Value×Cells×(List Ug)×Cells)=>aD zz.1 3 181 agE zz.2.2.1 zz.2.1∧zz.2.2.1.length=kk∧(∀aK,Knows aK zz.2.2.2→du (TrR (bG S) aK) zz.2.2.1 ((cY S ways).take kk))∧(cY S ways).length≤3)) (fun jump=>(fun(zz:Value×Cells×(List Ug)×Cells)=>False)) (⟨zS,[],[],[]⟩) ⟨aD.nil _ _ _,rfl,fun _ _=> .nil,hLn⟩ [2,0,1] ?_ ?_ ?_
 ·
  rintro bl7 bd7 kk7 vs7 LL7 ⟨vl,Lt,ts,Z⟩ ro7 hk7 aP5 hI rz
  obtain⟨x7,t7,hx7,rfl,hR7⟩:=aP5
  dsimp only at hI
  have bW:=(List.getElem?_eq_some_iff.1 hx7).1
  refine zD 1<|jn fun b8=>jd 2 [0]<|azG<|jd 4 [2,0]<|jn fun mQ=>jk (sz:=3) (ps:=ts) (qs:=[(⟨t7.a,t7.n,t7.c,t7.ea,t7.en,t7.ec,t7.r⟩:Ug)]) (enc:=agE) (w:= .slice (some ⟨mQ,0,none⟩) 1 1) [4] [0] [(mQ,.cells ⟨([(⟨t7.a,t7.n,t7.c,t7.ea,t7.en,t7.ec,t7.r⟩:Ug)].map agE).flatten⟩ 181 (0,0))] (hI.1) (fun s _ hZ=>cg [(⟨t7.a,t7.n,t7.c,t7.ea,t7.en,t7.ec,t7.r⟩:Ug)] (hZ _ (.head _)) (by intro p hp;rfl)) (fun p _=>aj rfl) (by simp only[List.length_cons,List.length_nil];omega) (fun v23 L23 yo=>?_)
  obtain⟨aJ9,aJN,atk⟩:=yo.form
  subst atk
  refine jd 2 [4]<|jyn XK (Sub.refl _) ⟨(.slice aJ9 ((ts++[(⟨t7.a,t7.n,t7.c,t7.ea,t7.en,t7.ec,t7.r⟩:Ug)])).length aJN),L23,(ts++[(⟨t7.a,t7.n,t7.c,t7.ea,t7.en,t7.ec,t7.r⟩:Ug)]),LL7++Z⟩ ⟨yo,by simp only[List.length_append,List.length_cons,List.length_nil];omega,fun aK hk=>pE (hI.2.2.1 aK (Knows.right hk)) hx7 (hR7 aK (Knows.left hk)),hI.2.2.2⟩ [3,4,0,6,5]
 ·
  rintro bd7 ⟨vl,Lt,ts,Z⟩ Z7 hI hZ7
  dsimp only at hI
  subst hZ7
  refine jd 9 [2]<|aNs qm0.a.a.m (.tuple ⟨[zP Q0,vl,zI 0]⟩) [0] [] [2,3] (Lt++Z) (Sub.refl _) ⟨_,_,_,rfl,rfl,(cy.trans kN),Q0,vl,ts,Lt,Z,rfl,HE.up kN,rfl,hI.1,hI.2.1,by have:=hI.2.2.1;rwa[List.take_of_length_le (Nat.le_refl _)] at this⟩
 rintro bd7 ⟨vl,Lt,ts,Z⟩ Z7 jump hS hZ7
 exact hS.elim
def wv(t:Ug):Value:= .slice t.a t.n t.c
theorem du.maps{β γ δ:Type}{R:α→β→Prop}{T:γ→δ→Prop}{f:α→γ}{g:β→δ}(h:∀a b,R a b→T (f a) (g b)):∀ {l:List α} {m:List β},du R l m→du T (l.map f) (m.map g)
 | [],[],.nil=> .nil
 |_::_,_::_,.cons h1 h2=> .cons (h _ _ h1) (du.maps h h2)
theorem XU{y:an}{l:List an}(h:y∈l):cZ (oN y.h y.n y.l) l 0≥0:=by
 have key:∀(l:List an) (k:Nat),y∈l→cZ (oN y.h y.n y.l) l k≥0:=by
  intro l
  induction l with
  |nil=>intro k h;cases h
  |cons x l ih=>
   intro k h
   simp only[cZ]
   cases hx:oN y.h y.n y.l x with
   |true=>simp
   |false=>
    simp only[cond_false]
    rcases List.mem_cons.1 h with rfl|h
    ·simp[oN] at hx
    exact ih _ h
 exact key l 0 h
theorem als{fa:Option Addr}{S:List (List ah)}{ro:Nat→Option Obj}(hS:cS ro vS S)(hO:e8 S)(hT:nH ro vT ways)(hW:xF ways):eI zT 85 [.agg ⟨[vS,vT,.slice fa 0 fc]⟩] ro [] (fun r Y=>∃a n c,r= .tuple ⟨[.slice a n c,zI 0]⟩∧n=((cY S ways).map (·.ways)).length∧∀lR,Knows lR Y→ahq lR (.slice a n c) ((cY S ways).map (·.ways))):=by
 have xv:=hS
 obtain⟨ib,hs,fw⟩:=hS
 obtain⟨mg,RV,RS,kU,rfl,RU,Kv,Ku⟩:=hs
 obtain⟨iI,ht,fo⟩:=id hT
 obtain⟨eY,zh,zf,ee,rfl,zg,rH,rG⟩:=ht
 have Hy:=fw.len
 have Dr:=fo.len
 have H6:=hO.two
 have Aa:=hW.one
 have M0:∀(i:Nat) (p:cX),([]:List cX)[i]?=some p→cA ⟨ro,[]⟩ 0 (0+i*6) 6 (mH p):=fun _ _ h=>n9 h
 have hLn:=ED (S:=S) hW
 refine bI av [] [] bB<|zD 2<|jn fun b1=>jd 6 [0]<|jcG (vs:=[.agg ⟨[.slice mg ib.length kU,.slice eY iI.length ee,.slice fa 0 fc]⟩]) [] (af4 xv hO hT hW) ?_
 rintro _ aE _ cy ⟨jH,vl,ts,Lt,Z,rfl,HE,rfl,hL,htl,hA⟩
 obtain⟨uS,uT,uH,ua,uc,gb,_,_,hh⟩:=HE
 obtain⟨dM,uy,ux,dq,rfl,wA,qv,qu⟩:=hh
 obtain⟨aKb,aJP,aQl⟩:=hL.form
 subst aQl
 refine jg 0 [.l Lt,.l Z]<|zD 28<|oU<|eG [1,1,1,1,0,1,0,0] [] (fun(zz:Nat×Value×Cells)=>[(2,zS),(3,zI 0),(7,zz.2.1),(19,(.slice aKb ts.length aJP)),(20,zI (ts.length:Int)),(21,zI (zz.1:Int))]) (fun(zz:Nat×Value×Cells)=>[.l zz.2.2,.l Lt,.l Z,.b b1 (.cells ⟨[.slice mg ib.length kU,.slice eY iI.length ee,.slice fa 0 fc]⟩ 29 (0,0))]) (fun(zz:Nat×Value×Cells)=>zz.1≤ts.length∧aD zz.2.1 1 22 gN ((ts.take zz.1).map wv) zz.2.2) (fun(zz:Nat×Value×Cells)=>ts.length-zz.1) (⟨0,zS,[]⟩) ⟨by dsimp only;omega,aD.nil _ _ _⟩ [0,1,2,3] ?_
 rintro⟨k,vO,LO⟩ hI K1 bU rest
 dsimp only at hI
 refine zD 5<|zJ 22 ((k:Int) <(ts.length:Int)) (fun h2=>?_) fun h2=>?_
 ·
  refine zD 6 ?_
  obtain⟨uI,su⟩:=zG ts k
  refine ZJ 3 hL su fun b23 aQ6=>oQ 0 [1] Lt (fun s _ hZ=>cG hL aQ6 hZ su)<|jn fun b9=>jd 6 [0,0]<|jn fun b28=>jk (sz:=1) (ps:=((ts.take k).map wv)) (qs:=[(.slice uI.a uI.n uI.c:Value)]) (enc:=gN) (w:= .slice (some ⟨b28,0,none⟩) 1 1) [2] [0] [(b28,.cells ⟨([(.slice uI.a uI.n uI.c:Value)].map gN).flatten⟩ 22 (0,0))] (hI.2) (fun s _ hZ=>cg [(.slice uI.a uI.n uI.c:Value)] (hZ _ (.head _)) (by intro p hp;rfl)) (by intro p hp;rw[List.mem_singleton] at hp;subst hp;exact aj rfl) (by simp only[List.length_map,List.length_take,List.length_cons,List.length_nil];omega) (fun v29 L29 F4=>?_)
  obtain⟨aaC,aav,aeR⟩:=F4.form
  subst aeR
  refine zD 3<|ja ((k:Int)+1) (by omega)<|zD 2<|bO bU (⟨k+1,(.slice aaC ((((ts.take k).map wv)++[(.slice uI.a uI.n uI.c:Value)])).length aav),L29⟩) ⟨by dsimp only;omega,by rw[fu su,List.map_append];exact F4⟩ (by dsimp only;omega) [0,3,4,5] (Sub.refl _)
 refine zD 3 ?_
 obtain⟨va3,vc3,ZR⟩:=hI.2.form
 subst ZR
 refine zD 6<|aJ q0.a (.tuple ⟨[(.slice va3 (((ts.take k).map wv)).length vc3),zI 0]⟩) [] [0,2] (LO++Z) cy ⟨_,_,rfl,rfl,_,_,_,rfl,by simp only[List.length_map,List.length_take];omega,fun lR hk=>⟨_,hI.2.lq (Knows.left hk),by rw[List.take_of_length_le (by omega)];exact(hA lR (Knows.right hk)).maps fun _ _ h=>h.1⟩⟩
theorem aul{fa:Option Addr}{S:List (List ah)}{y:an}{x:TrD}{ro:Nat→Option Obj}(hS:cS ro vS S)(hO:e8 S)(hT:nH ro vT ways)(hW:xF ways)(hy:y∈bG S)(hLx:cY S ways=[x]):eI zT 64 [.agg ⟨[vS,vT,.slice fa 0 fc]⟩,.agg ⟨[zI y.h,zI y.n,zI y.l]⟩] ro [] (fun r Y=>∃a n c,r= .tuple ⟨[.slice a n c,zI 0]⟩∧∀lR,Knows lR Y→bL lR (.slice a n c) 3 cI [x.g y]):=by
 have xv:=hS
 obtain⟨ib,hs,fw⟩:=hS
 obtain⟨mg,RV,RS,kU,rfl,RU,Kv,Ku⟩:=hs
 obtain⟨iI,ht,fo⟩:=id hT
 obtain⟨eY,zh,zf,ee,rfl,zg,rH,rG⟩:=ht
 have Hy:=fw.len
 have Dr:=fo.len
 have H6:=hO.two
 have Aa:=hW.one
 have M0:∀(i:Nat) (p:cX),([]:List cX)[i]?=some p→cA ⟨ro,[]⟩ 0 (0+i*6) 6 (mH p):=fun _ _ h=>n9 h
 have hhl:=tK hO
 have hph:=XU hy
 have AT:(cY S ways).length=1:=by rw[hLx];rfl
 refine bI av [] [] bB<|zD 2<|jn fun b2=>jn fun b3=>jd 6 [1]<|jcG (vs:=[.agg ⟨[.slice mg ib.length kU,.slice eY iI.length ee,.slice fa 0 fc]⟩]) [] (af4 xv hO hT hW) ?_
 rintro _ aE _ cy ⟨WS,vl,ts,Lt,Z,rfl,HE,rfl,hL,htl,hA⟩
 obtain⟨uS,uT,uH,ua,uc,gb,_,_,hh⟩:=HE
 obtain⟨dM,uy,ux,dq,rfl,wA,qv,qu⟩:=hh
 obtain⟨Ez,C5,uB⟩:=hL.form
 subst uB
 refine jg 0 [.l Lt,.l Z]<|zD 22<|jl (b:=WS) (off:=0) (m:=4) (vs:=[uS,uT,.slice ua 0 uc,.slice dM ((bG S).length) dq]) 3 ⟨_,_,_,.inl gb,rfl⟩<|jd 1 [2]<|jp (vs:=[.slice dM ((bG S).length) dq,.agg ⟨[zI y.h,zI y.n,zI y.l]⟩]) [] [] (fun aE hs hZ=>Jl ((show bL _ _ _ _ _ from ⟨dM,uy,ux,dq,rfl,wA,qv,qu⟩).up hs) (by omega))<|zD 2<|js 27 (!(decide (cZ (oN y.h y.n y.l) (bG S) 0≥0))) (fun h2=>?_) (fun h2=>?_)
 ·
  exfalso;simp_all
 refine zD 9<|zJ 30 ((ts.length:Int)=0) (fun h3=>?_) fun h3=>?_
 ·
  exfalso;omega
 refine zD 5<|jf [0,1] (Lt++Z) (fun ro6 kN ZO=>?_)
 have hLs:=hL.lq (Knows.left ZO)
 have hAs:=hA _ (Knows.right ZO)
 obtain⟨kI,Hq,Hp,kH,QI,M1,EZ,EY⟩:=hLs
 simp only[Value.slice.injEq] at QI
 obtain⟨rfl,_,rfl⟩:=QI
 refine zD 9<|oU<|eG [1,1,1,1,1,1,0,1,0,0] [] (fun(zz:Nat×Value×Cells)=>[(3,zP b3),(4,zS),(5,zI 0),(9,zz.2.1),(31,.slice Ez ts.length C5),(32,zI (ts.length:Int)),(33,zI (zz.1:Int))]) (fun(zz:Nat×Value×Cells)=>[.l zz.2.2,.b b3 (.cells ⟨[zI y.h,zI y.n,zI y.l]⟩ 144 (0,0)),.b b2 (.cells ⟨[.slice mg ib.length kU,.slice eY iI.length ee,.slice fa 0 fc]⟩ 29 (0,0))]) (fun(zz:Nat×Value×Cells)=>zz.1≤ts.length∧aD zz.2.1 3 144 cI ([x.g y].take zz.1) zz.2.2) (fun(zz:Nat×Value×Cells)=>ts.length-zz.1) (⟨0,zS,[]⟩) ⟨by dsimp only;omega,aD.nil _ _ _⟩ [0,1,2] ?_
 rintro⟨k,vO,LO⟩ hI K1 bU rest
 dsimp only at hI
 refine zD 5<|zJ 34 ((k:Int) <(ts.length:Int)) (fun h7=>?_) fun h7=>?_
 ·
  refine zD 6 ?_
  obtain⟨x35,SI⟩:=zG ts k
  refine iE C5 3 EZ SI<|jl 0 (EY _ _ SI)<|jn fun Q0=>jd 2 [0] ?_
  obtain⟨q35,aAk,_,bd2,bd6,F35,aPt,aR2,aPG,aOl⟩:=hAs.get SI
  obtain⟨hqe,hk0⟩:=Fh (by rw[hLx] at aAk;exact aAk)
  replace hqe:=hqe.symm
  subst hqe
  refine jd 5 [0,2]<|jlu (kv:=oF) (F:=F35) (r:=x35.r) (K:=144) y (zS) false [] [] CC (fun s he _=>⟨_,_,he _ _ (.inl aPt),aR2⟩) ?_
  obtain⟨w41,aOc,aPr⟩:=Vu (k:=y) (F:=F35) (aPG y hy)
  have hww:bL _ w41 3 cI [x.g y]:=aOl _ aPr
  obtain⟨RP,qwb,qwo,Kq,rfl,qwk,qwh,qwl⟩:=hww
  refine jw 41 (.slice RP ([x.g y].length) Kq) (show OU (zS) false y F35=_ from by simp only[OU,aOc];rfl) ?_
  refine jk (sz:=3) (ps:=([x.g y].take k)) (qs:=[x.g y]) (enc:=cI) (w:= .slice RP ([x.g y].length) Kq) [1] [] [] (hI.2) (fun s he _=>⟨RP,qwb,qwo,Kq,rfl,qwh,fun i p hp=>(qwl i p hp).ext he⟩) (fun p _=>aj rfl) (by simp only[List.length_take,List.length_cons,List.length_nil];omega) (fun v42 L42 aea=>?_)
  obtain⟨aJ2,aJG,aQf⟩:=aea.form
  subst aQf
  refine zD 3<|ja ((k:Int)+1) (by omega)<|zD 2<|bO bU (⟨k+1,(.slice aJ2 ((([x.g y].take k)++[x.g y])).length aJG),L42⟩) ⟨by dsimp only;omega,by have:=aea;rw[hk0] at this ⊢;exact this⟩ (by dsimp only;omega) [0,2,3] (Sub.refl _)
 refine zD 5<|ZK (vs:=[vO]) [] [0] LO (fun aE hs hZ=>Wj (hI.2.lq hZ) (by simp only[List.length_take,List.length_cons,List.length_nil];omega)) ?_
 rintro v45 L45 aAx
 obtain⟨apa,ao0,atg⟩:=aAx.form
 subst atg
 refine zD 4<|aJ q0.a.a (.tuple ⟨[(.slice apa (([x.g y].take k)).length ao0),zI 0]⟩) [] [0] L45 (cy.trans kN) ⟨_,_,rfl,rfl,_,_,_,rfl,fun lR hk=>by have:=aAx.lq hk;have e: [x.g y].take k=[x.g y]:=List.take_of_length_le (by simp only[List.length_cons,List.length_nil];omega);simpa only[e] using this⟩
end Go.L
