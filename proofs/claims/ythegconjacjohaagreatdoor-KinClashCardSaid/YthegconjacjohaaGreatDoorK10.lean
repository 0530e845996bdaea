/- Part 10 of the proof. -/
import Derived.Test.YthegconjacjohaaGreatDoorK9
set_option maxRecDepth 100000
set_option linter.all false
namespace Go.L
open Go Go.Conc Go.Proofs
variable {ro aD:Nat→Option Obj} {ways:List (List aN)} {ys xs:List Int} {K:aC} {l:List Value} {k n b fc b1 i ck bl b2 b3 Jk ck0 r1 en ec:Nat} {Stop:Cells→Prop} {α:Type} {x f y j:Int} {vS vT:Value} {seen:List Nat} {hd:List cA} {fs:List bM} {Z B LE:Cells}
def ayU(S:List (List ah))(c:aN):List (an×an):=
 if c.k=1 then aed c.st (S[c.st.toNat]?.getD []) else if c.k=2 then Kj c.st (S[c.st.toNat]?.getD []) else Lu c.st c.ot (S[c.st.toNat]?.getD []) (rS (S[c.ot.toNat]?.getD []))
def yW(S:List (List ah))(c:aN)(x:an):an:=gU (ayU S c) x
theorem p8{l:List α}(h:l.length=2):∃a b,l=[a,b]:=by
 match l,h with
 | [a,b],_=>exact⟨a,b,rfl⟩
theorem SB:du zT 243 [] ro (.agg ⟨[.nilFunc,.func (.func 271) ⟨[]⟩ ⟨[]⟩,.func (.func 272) ⟨[]⟩ ⟨[]⟩,.func (.func 273) ⟨[]⟩ ⟨[]⟩,.func (.func 274) ⟨[]⟩ ⟨[]⟩,.func (.func 275) ⟨[]⟩ ⟨[]⟩,.func (.func 276) ⟨[]⟩ ⟨[]⟩,.func (.func 277) ⟨[]⟩ ⟨[]⟩]⟩):=by
 refine zE<|zD 2<|jn fun b0=>jd 7 [0]<|zR (.agg ⟨[.nilFunc,.func (.func 271) ⟨[]⟩ ⟨[]⟩,.func (.func 272) ⟨[]⟩ ⟨[]⟩,.func (.func 273) ⟨[]⟩ ⟨[]⟩,.func (.func 274) ⟨[]⟩ ⟨[]⟩,.func (.func 275) ⟨[]⟩ ⟨[]⟩,.func (.func 276) ⟨[]⟩ ⟨[]⟩,.func (.func 277) ⟨[]⟩ ⟨[]⟩]⟩) [0] [] [] ⟨rfl,rfl⟩
theorem aIb{v:Value}{S:List (List ah)}(hS:cW ro v S)(hO:eS S):dG zT 204 [.agg ⟨[v]⟩,.agg ⟨[zI 1,zI 0,zI 0,zI 0,zI 0,zI 0,zI 0]⟩] ro [] (fun r Y=>∃rm F LM Z,r= .tuple ⟨[.map (some rm),zI 0]⟩∧Y=LM++Z∧jU rm oV F LM∧F.map (·.1)=bI S∧MV Z F (yW S ⟨1,0,0,0,0,0,0⟩)):=by
 obtain⟨p,q,rfl⟩:=p8 hO.two
 have yl:=hS
 obtain⟨ws,ht,di⟩:=hS
 obtain⟨w1,w2,rfl⟩:=p8 (di.len.trans hO.two)
 obtain⟨eR,AK,AI,dS,rfl,AJ,sG,sE⟩:=ht
 refine zE<|zD 2<|jn fun b2=>jn fun b3=>jd 8 [0]<|jp (vs:=[zI 1,zI 1,zI 7]) [] [] (fun aG hs hZ=>Be)<|jd 18 [1,0]<|jp (vs:=[zI 0,zI 0,zI 1]) [] [] (fun aG hs hZ=>Be)<|jd 70 [0,0,0,0,0,0]<|jne GY (wN 0 0 0 0)<|zD 3<|js 73 (!(0==0&&(0==0&&true))) (fun h1=>?_) (fun h1=>?_)
 ·
  have fq:=h1
  try simp only[zB] at fq
  exact absurd fq (by decide)
 have fq:=h1
 try simp only[zB] at fq
 refine jd 6 [0]<|jne GY (wN 0 0 0 0)<|zD 3<|js 82 (!(0==0&&(0==0&&true))) (fun h2=>?_) (fun h2=>?_)
 ·
  exact absurd h2 (by decide)
 refine jd 5 [1]<|jc (vs:=[.agg ⟨[.slice eR 2 dS]⟩]) [] (Ma (yl) hO) ?_
 rintro _ _ ⟨rm,F,LM,Z,rfl,rfl,hmM,hkM,hMM⟩
 refine jg 0 [.l LM,.l Z]<|jd 10 [2,3,2]<|jp [] [] (fun aG hs hZ=>SB)<|zD 1<|aS 7 fun BX B6 An=>jc (vs:=[.agg ⟨[.slice eR 2 dS]⟩,.agg ⟨[zI 1,zI 0,zI 0,zI 0,zI 0,zI 0,zI 0]⟩,(.map (some rm))]) [0,1] (ZB (s:=0) yl hO rfl hmM hkM hMM) ?_
 rintro _ _ ⟨F2,OW,Z2,rfl,rfl,Fv,iL,hM2⟩
 refine jg 0 [.l OW,.l Z2]<|gx An [[2]]<|zD 16<|zR (.tuple ⟨[(.map (some rm)),zI 0]⟩) [] [0,1] (OW++Z2) ⟨rm,F2,OW,Z2,rfl,rfl,Fv,iL,hM2⟩
theorem aIa{v:Value}{S:List (List ah)}(hS:cW ro v S)(hO:eS S):dG zT 204 [.agg ⟨[v]⟩,.agg ⟨[zI 2,zI 0,zI 0,zI 0,zI 0,zI 0,zI 0]⟩] ro [] (fun r Y=>∃rm F LM Z,r= .tuple ⟨[.map (some rm),zI 0]⟩∧Y=LM++Z∧jU rm oV F LM∧F.map (·.1)=bI S∧MV Z F (yW S ⟨2,0,0,0,0,0,0⟩)):=by
 obtain⟨p,q,rfl⟩:=p8 hO.two
 have yl:=hS
 obtain⟨ws,ht,di⟩:=hS
 obtain⟨w1,w2,rfl⟩:=p8 (di.len.trans hO.two)
 obtain⟨eR,AK,AI,dS,rfl,AJ,sG,sE⟩:=ht
 refine zE<|zD 2<|jn fun b2=>jn fun b3=>jd 8 [0]<|jp (vs:=[zI 2,zI 1,zI 7]) [] [] (fun aG hs hZ=>Be)<|jd 18 [1,0]<|jp (vs:=[zI 0,zI 0,zI 1]) [] [] (fun aG hs hZ=>Be)<|jd 70 [0,0,0,0,0,0]<|jne GY (wN 0 0 0 0)<|zD 3<|js 73 (!(0==0&&(0==0&&true))) (fun h1=>?_) (fun h1=>?_)
 ·
  have fq:=h1
  try simp only[zB] at fq
  exact absurd fq (by decide)
 have fq:=h1
 try simp only[zB] at fq
 refine jd 6 [0]<|jne GY (wN 0 0 0 0)<|zD 3<|js 82 (!(0==0&&(0==0&&true))) (fun h2=>?_) (fun h2=>?_)
 ·
  exact absurd h2 (by decide)
 refine jd 5 [1]<|jc (vs:=[.agg ⟨[.slice eR 2 dS]⟩]) [] (Ma (yl) hO) ?_
 rintro _ _ ⟨rm,F,LM,Z,rfl,rfl,hmM,hkM,hMM⟩
 refine jg 0 [.l LM,.l Z]<|jd 10 [2,3,2]<|jp [] [] (fun aG hs hZ=>SB)<|zD 1<|aS 7 fun BX B6 An=>jc (vs:=[.agg ⟨[.slice eR 2 dS]⟩,.agg ⟨[zI 2,zI 0,zI 0,zI 0,zI 0,zI 0,zI 0]⟩,(.map (some rm))]) [0,1] (SA (s:=0) yl hO rfl hmM hkM hMM) ?_
 rintro _ _ ⟨F2,OW,Z2,rfl,rfl,Fv,iL,hM2⟩
 refine jg 0 [.l OW,.l Z2]<|gx An [[2]]<|zD 16<|zR (.tuple ⟨[(.map (some rm)),zI 0]⟩) [] [0,1] (OW++Z2) ⟨rm,F2,OW,Z2,rfl,rfl,Fv,iL,hM2⟩
theorem aH9{v:Value}{S:List (List ah)}(hS:cW ro v S)(hO:eS S):dG zT 204 [.agg ⟨[v]⟩,.agg ⟨[zI 1,zI 1,zI 0,zI 0,zI 0,zI 0,zI 0]⟩] ro [] (fun r Y=>∃rm F LM Z,r= .tuple ⟨[.map (some rm),zI 0]⟩∧Y=LM++Z∧jU rm oV F LM∧F.map (·.1)=bI S∧MV Z F (yW S ⟨1,1,0,0,0,0,0⟩)):=by
 obtain⟨p,q,rfl⟩:=p8 hO.two
 have yl:=hS
 obtain⟨ws,ht,di⟩:=hS
 obtain⟨w1,w2,rfl⟩:=p8 (di.len.trans hO.two)
 obtain⟨eR,AK,AI,dS,rfl,AJ,sG,sE⟩:=ht
 refine zE<|zD 2<|jn fun b2=>jn fun b3=>jd 8 [0]<|jp (vs:=[zI 1,zI 1,zI 7]) [] [] (fun aG hs hZ=>Be)<|jd 18 [1,0]<|jp (vs:=[zI 1,zI 0,zI 1]) [] [] (fun aG hs hZ=>Be)<|jd 70 [0,0,0,0,0,0]<|jne GY (wN 0 0 0 0)<|zD 3<|js 73 (!(0==0&&(0==0&&true))) (fun h1=>?_) (fun h1=>?_)
 ·
  have fq:=h1
  try simp only[zB] at fq
  exact absurd fq (by decide)
 have fq:=h1
 try simp only[zB] at fq
 refine jd 6 [0]<|jne GY (wN 0 0 0 0)<|zD 3<|js 82 (!(0==0&&(0==0&&true))) (fun h2=>?_) (fun h2=>?_)
 ·
  exact absurd h2 (by decide)
 refine jd 5 [1]<|jc (vs:=[.agg ⟨[.slice eR 2 dS]⟩]) [] (Ma (yl) hO) ?_
 rintro _ _ ⟨rm,F,LM,Z,rfl,rfl,hmM,hkM,hMM⟩
 refine jg 0 [.l LM,.l Z]<|jd 10 [2,3,2]<|jp [] [] (fun aG hs hZ=>SB)<|zD 1<|aS 7 fun BX B6 An=>jc (vs:=[.agg ⟨[.slice eR 2 dS]⟩,.agg ⟨[zI 1,zI 1,zI 0,zI 0,zI 0,zI 0,zI 0]⟩,(.map (some rm))]) [0,1] (ZB (s:=1) yl hO rfl hmM hkM hMM) ?_
 rintro _ _ ⟨F2,OW,Z2,rfl,rfl,Fv,iL,hM2⟩
 refine jg 0 [.l OW,.l Z2]<|gx An [[2]]<|zD 16<|zR (.tuple ⟨[(.map (some rm)),zI 0]⟩) [] [0,1] (OW++Z2) ⟨rm,F2,OW,Z2,rfl,rfl,Fv,iL,hM2⟩
theorem aH8{v:Value}{S:List (List ah)}(hS:cW ro v S)(hO:eS S):dG zT 204 [.agg ⟨[v]⟩,.agg ⟨[zI 2,zI 1,zI 0,zI 0,zI 0,zI 0,zI 0]⟩] ro [] (fun r Y=>∃rm F LM Z,r= .tuple ⟨[.map (some rm),zI 0]⟩∧Y=LM++Z∧jU rm oV F LM∧F.map (·.1)=bI S∧MV Z F (yW S ⟨2,1,0,0,0,0,0⟩)):=by
 obtain⟨p,q,rfl⟩:=p8 hO.two
 have yl:=hS
 obtain⟨ws,ht,di⟩:=hS
 obtain⟨w1,w2,rfl⟩:=p8 (di.len.trans hO.two)
 obtain⟨eR,AK,AI,dS,rfl,AJ,sG,sE⟩:=ht
 refine zE<|zD 2<|jn fun b2=>jn fun b3=>jd 8 [0]<|jp (vs:=[zI 2,zI 1,zI 7]) [] [] (fun aG hs hZ=>Be)<|jd 18 [1,0]<|jp (vs:=[zI 1,zI 0,zI 1]) [] [] (fun aG hs hZ=>Be)<|jd 70 [0,0,0,0,0,0]<|jne GY (wN 0 0 0 0)<|zD 3<|js 73 (!(0==0&&(0==0&&true))) (fun h1=>?_) (fun h1=>?_)
 ·
  have fq:=h1
  try simp only[zB] at fq
  exact absurd fq (by decide)
 have fq:=h1
 try simp only[zB] at fq
 refine jd 6 [0]<|jne GY (wN 0 0 0 0)<|zD 3<|js 82 (!(0==0&&(0==0&&true))) (fun h2=>?_) (fun h2=>?_)
 ·
  exact absurd h2 (by decide)
 refine jd 5 [1]<|jc (vs:=[.agg ⟨[.slice eR 2 dS]⟩]) [] (Ma (yl) hO) ?_
 rintro _ _ ⟨rm,F,LM,Z,rfl,rfl,hmM,hkM,hMM⟩
 refine jg 0 [.l LM,.l Z]<|jd 10 [2,3,2]<|jp [] [] (fun aG hs hZ=>SB)<|zD 1<|aS 7 fun BX B6 An=>jc (vs:=[.agg ⟨[.slice eR 2 dS]⟩,.agg ⟨[zI 2,zI 1,zI 0,zI 0,zI 0,zI 0,zI 0]⟩,(.map (some rm))]) [0,1] (SA (s:=1) yl hO rfl hmM hkM hMM) ?_
 rintro _ _ ⟨F2,OW,Z2,rfl,rfl,Fv,iL,hM2⟩
 refine jg 0 [.l OW,.l Z2]<|gx An [[2]]<|zD 16<|zR (.tuple ⟨[(.map (some rm)),zI 0]⟩) [] [0,1] (OW++Z2) ⟨rm,F2,OW,Z2,rfl,rfl,Fv,iL,hM2⟩
theorem aH7{v:Value}{S:List (List ah)}(hS:cW ro v S)(hO:eS S):dG zT 204 [.agg ⟨[v]⟩,.agg ⟨[zI 4,zI 1,zI 0,zI 0,zI 0,zI 0,zI 0]⟩] ro [] (fun r Y=>∃rm F LM Z,r= .tuple ⟨[.map (some rm),zI 0]⟩∧Y=LM++Z∧jU rm oV F LM∧F.map (·.1)=bI S∧MV Z F (yW S ⟨4,1,0,0,0,0,0⟩)):=by
 obtain⟨p,q,rfl⟩:=p8 hO.two
 have yl:=hS
 obtain⟨ws,ht,di⟩:=hS
 obtain⟨w1,w2,rfl⟩:=p8 (di.len.trans hO.two)
 obtain⟨eR,AK,AI,dS,rfl,AJ,sG,sE⟩:=ht
 refine zE<|zD 2<|jn fun b2=>jn fun b3=>jd 8 [0]<|jp (vs:=[zI 4,zI 1,zI 7]) [] [] (fun aG hs hZ=>Be)<|jd 18 [1,0]<|jp (vs:=[zI 1,zI 0,zI 1]) [] [] (fun aG hs hZ=>Be)<|jd 33 [0,0,0,0]<|jp (vs:=[zI 0,zI 0,zI 1]) [] [] (fun aG hs hZ=>Be)<|jd 36 [0,0,0]<|jne GY (wN 0 0 0 0)<|zD 3<|js 73 (!(0==0&&(0==0&&true))) (fun h1=>?_) (fun h1=>?_)
 ·
  have fq:=h1
  try simp only[zB] at fq
  exact absurd fq (by decide)
 have fq:=h1
 try simp only[zB] at fq
 refine jd 6 [0]<|jne GY (wN 0 0 0 0)<|zD 3<|js 82 (!(0==0&&(0==0&&true))) (fun h2=>?_) (fun h2=>?_)
 ·
  exact absurd h2 (by decide)
 refine jd 5 [1]<|jc (vs:=[.agg ⟨[.slice eR 2 dS]⟩]) [] (Ma (yl) hO) ?_
 rintro _ _ ⟨rm,F,LM,Z,rfl,rfl,hmM,hkM,hMM⟩
 refine jg 0 [.l LM,.l Z]<|jd 10 [2,3,2]<|jp [] [] (fun aG hs hZ=>SB)<|zD 1<|aS 7 fun BX B6 An=>jc (vs:=[.agg ⟨[.slice eR 2 dS]⟩,.agg ⟨[zI 4,zI 1,zI 0,zI 0,zI 0,zI 0,zI 0]⟩,(.map (some rm))]) [0,1] (apg (s:=1) (o:=0) yl hO rfl hmM hkM hMM rfl) ?_
 rintro _ _ ⟨F2,OW,Z2,rfl,rfl,Fv,iL,hM2⟩
 refine jg 0 [.l OW,.l Z2]<|gx An [[2]]<|zD 16<|zR (.tuple ⟨[(.map (some rm)),zI 0]⟩) [] [0,1] (OW++Z2) ⟨rm,F2,OW,Z2,rfl,rfl,Fv,iL,hM2⟩
def abA(n:Nat):Int:=if n=0 then 0 else if n <2 then 1 else if n <4 then 2 else if n <8 then 3 else 4
theorem ayG:∀ {n:Nat},n≤12→du zT 193 [zU (n:Int)] ro (zI (abA n))
 |0,_=>by refine bA ar [] [] aW (zD 35 (ja 0 (by decide) (zD 3 ?_)));exact aK q0 (zI 0) [] [] [] (Sub.refl _) ⟨_,_,rfl,rfl,rfl,rfl⟩
 |1,_=>by refine bA ar [] [] aW (zD 35 (ja 1 (by decide) (zD 3 ?_)));exact aK q0 (zI 1) [] [] [] (Sub.refl _) ⟨_,_,rfl,rfl,rfl,rfl⟩
 |2,_=>by refine bA ar [] [] aW (zD 35 (ja 2 (by decide) (zD 3 ?_)));exact aK q0 (zI 2) [] [] [] (Sub.refl _) ⟨_,_,rfl,rfl,rfl,rfl⟩
 |3,_=>by refine bA ar [] [] aW (zD 35 (ja 2 (by decide) (zD 3 ?_)));exact aK q0 (zI 2) [] [] [] (Sub.refl _) ⟨_,_,rfl,rfl,rfl,rfl⟩
 |4,_=>by refine bA ar [] [] aW (zD 35 (ja 3 (by decide) (zD 3 ?_)));exact aK q0 (zI 3) [] [] [] (Sub.refl _) ⟨_,_,rfl,rfl,rfl,rfl⟩
 |5,_=>by refine bA ar [] [] aW (zD 35 (ja 3 (by decide) (zD 3 ?_)));exact aK q0 (zI 3) [] [] [] (Sub.refl _) ⟨_,_,rfl,rfl,rfl,rfl⟩
 |6,_=>by refine bA ar [] [] aW (zD 35 (ja 3 (by decide) (zD 3 ?_)));exact aK q0 (zI 3) [] [] [] (Sub.refl _) ⟨_,_,rfl,rfl,rfl,rfl⟩
 |7,_=>by refine bA ar [] [] aW (zD 35 (ja 3 (by decide) (zD 3 ?_)));exact aK q0 (zI 3) [] [] [] (Sub.refl _) ⟨_,_,rfl,rfl,rfl,rfl⟩
 |8,_=>by refine bA ar [] [] aW (zD 35 (ja 4 (by decide) (zD 3 ?_)));exact aK q0 (zI 4) [] [] [] (Sub.refl _) ⟨_,_,rfl,rfl,rfl,rfl⟩
 |9,_=>by refine bA ar [] [] aW (zD 35 (ja 4 (by decide) (zD 3 ?_)));exact aK q0 (zI 4) [] [] [] (Sub.refl _) ⟨_,_,rfl,rfl,rfl,rfl⟩
 |10,_=>by refine bA ar [] [] aW (zD 35 (ja 4 (by decide) (zD 3 ?_)));exact aK q0 (zI 4) [] [] [] (Sub.refl _) ⟨_,_,rfl,rfl,rfl,rfl⟩
 |11,_=>by refine bA ar [] [] aW (zD 35 (ja 4 (by decide) (zD 3 ?_)));exact aK q0 (zI 4) [] [] [] (Sub.refl _) ⟨_,_,rfl,rfl,rfl,rfl⟩
 |12,_=>by refine bA ar [] [] aW (zD 35 (ja 4 (by decide) (zD 3 ?_)));exact aK q0 (zI 4) [] [] [] (Sub.refl _) ⟨_,_,rfl,rfl,rfl,rfl⟩
 |n+13,h=>absurd h (by omega)
theorem Xp(h:n≤1000):Value.int .u64 (IntKind.u64.wrap (n:Int))= zU (n:Int):=by
 rw[sL .u64 rfl _ (by omega) (by simp[IntKind.bits];omega)]
def OP(v:Value)(xs:List ah)(Y:Cells):Prop:=∃ys,ys.Perm xs∧aw v 2 81 cK ys Y
theorem ayI(h:n≤12):du zT 134 [zU (n:Int)] ro (zI (abA n)):=by
 refine zE<|zD 10<|jp (vs:=[zU (n:Int)]) [] [] (fun aG hs hZ=>(ayG h))<|zD 3<|zX (zI (abA n)) ⟨rfl,rfl⟩
theorem aUC{v:Value}{xs:List ah}{L:Cells}{a b:Int}(ho:aw v 2 81 cK xs L)(hN:xs.length≤1000)(zg:0≤a∧a≤b∧b≤xs.length):dG zT 283 [v,zI a,zI b,.func (.func 212) ⟨[]⟩ ⟨[]⟩] ro L (fun r Y=>OP v xs Y):=by
 refine zC [.l L]<|zD 3<|ja (a+1) (by omega)<|zD 3<|dw [1,0,0] [] (fun(zz:Int×(List ah)×Cells)=>[(0,v),(1,zI a),(2,zI b),(3,.func (.func 212) ⟨[]⟩ ⟨[]⟩),(8,zI zz.1)]) (fun zz=>[.l zz.2.2]) (fun zz=>(a+1≤zz.1)∧aw v 2 81 cK zz.2.1 zz.2.2∧zz.2.1.Perm xs) (fun zz=>(b-zz.1).toNat) (⟨(a+1),xs,L⟩) ⟨by dsimp only;omega,ho,.refl _⟩ [0] ?_
 rintro⟨i,ys,L⟩ hI K1 bG rest
 dsimp only at hI
 have Rz:=hI.2.2.length_eq
 refine zD 7<|zJ 14 (i <b) (fun h1=>?_) fun h1=>?_
 ·
  refine zD 10<|dw [1,0,0,1,0,0,1,0,0] [K1] (fun(zz:Int×(List ah)×Cells)=>[(0,v),(1,zI a),(2,zI b),(3,.func (.func 212) ⟨[]⟩ ⟨[]⟩),(8,zI i),(9,zI zz.1)]) (fun zz=>[.l zz.2.2]) (fun zz=>(a≤zz.1∧zz.1≤i)∧aw v 2 81 cK zz.2.1 zz.2.2∧zz.2.1.Perm xs) (fun zz=>(zz.1-a).toNat) (⟨i,ys,L⟩) ⟨by dsimp only;omega,hI.2⟩ [0] ?_
  rintro⟨j,ys,L⟩ hJ K2 jV rest
  dsimp only at hJ
  have Rz:=hJ.2.2.length_eq
  refine zD 7<|js 3 (decide (j>a)) (fun h2=>?_) (fun h2=>?_)
  ·
   have k9:=h2
   replace k9:=of_decide_eq_true k9
   refine zD 3 ?_
   obtain⟨xf,ju⟩:=zG ys (j.toNat) (by first|omega| (simp only[List.length_set];omega))
   refine mW j 2 hJ.2.1 ju (Int.toNat_of_nonneg (show 0≤j∧j <((ys).length:Int) from (by first|omega| (simp only[List.length_set];omega))).1).symm (fun nS VZ=>?_)
   refine ki 0 [0] L (fun s _ hZ=>bh hJ.2.1 VZ hZ ju)<|zD 2<|ja (j-1) (by omega) ?_
   obtain⟨kB,fS⟩:=zG ys ((j-1).toNat) (by first|omega| (simp only[List.length_set];omega))
   refine mW (j-1) 2 hJ.2.1 fS (Int.toNat_of_nonneg (show 0≤(j-1)∧(j-1) <((ys).length:Int) from (by first|omega| (simp only[List.length_set];omega))).1).symm (fun b30 NZ=>?_)
   refine ki 0 [0] L (fun s _ hZ=>bh hJ.2.1 NZ hZ fS)<|aS 14 fun oP oR nK=>jp (vs:=[.agg ⟨[zI xf.n,zI xf.l]⟩,.agg ⟨[zI kB.n,zI kB.l]⟩]) [] [] (fun aG hs hZ=>(ase (x:=xf) (y:=kB)))<|eG nK [0]<|zD 3<|zJ 34 ((acE xf kB) <0) (fun h4=>?_) fun h4=>?_
   ·
    refine zD 9<|ja (j-1) (by omega)<|zD 2<|ja (j-1) (by omega) ?_
    obtain⟨sJ,sa⟩:=zG ys ((j-1).toNat) (by first|omega| (simp only[List.length_set];omega))
    refine mW (j-1) 2 hJ.2.1 sa (Int.toNat_of_nonneg (show 0≤(j-1)∧(j-1) <((ys).length:Int) from (by first|omega| (simp only[List.length_set];omega))).1).symm (fun b45 VY=>?_)
    refine ki 0 [0] L (fun s _ hZ=>bh hJ.2.1 VY hZ sa)<|zD 2 ?_
    obtain⟨Em,wy⟩:=zG ys (j.toNat) (by first|omega| (simp only[List.length_set];omega))
    refine mW j 2 hJ.2.1 wy (Int.toNat_of_nonneg (show 0≤j∧j <((ys).length:Int) from (by first|omega| (simp only[List.length_set];omega))).1).symm (fun b49 VX=>?_)
    refine ki 0 [0] L (fun s _ hZ=>bh hJ.2.1 VX hZ wy) ?_
    obtain⟨x51,y4⟩:=zG ys (j.toNat) (by first|omega| (simp only[List.length_set];omega))
    refine mW j 2 hJ.2.1 y4 (Int.toNat_of_nonneg (show 0≤j∧j <((ys).length:Int) from (by first|omega| (simp only[List.length_set];omega))).1).symm (fun b51 VW=>?_)
    refine aS 15 fun qU qV pK=>Fp 0 0 [zI sJ.n,zI sJ.l] (⟨sJ.n,sJ.l⟩:ah) hJ.2.1 VW y4 rfl rfl (Nat.le_of_ble_eq_true rfl) fun L6 TJ=>gx pK [] ?_
    obtain⟨x52,th⟩:=zG ((ys.set j.toNat (⟨sJ.n,sJ.l⟩:ah))) ((j-1).toNat) (by first|omega| (simp only[List.length_set];omega))
    refine mW (j-1) 2 TJ th (Int.toNat_of_nonneg (show 0≤(j-1)∧(j-1) <(((ys.set j.toNat (⟨sJ.n,sJ.l⟩:ah))).length:Int) from (by first|omega| (simp only[List.length_set];omega))).1).symm (fun b52 VV=>?_)
    refine aS 17 fun yz yF zh=>Fp 0 0 [zI Em.n,zI Em.l] (⟨Em.n,Em.l⟩:ah) TJ VV th rfl rfl (Nat.le_of_ble_eq_true rfl) fun L9 NR=>fW zh<|zD 3<|ja (j-1) (by omega)<|zD 2<|bF jV (⟨(j-1),((ys.set j.toNat (⟨sJ.n,sJ.l⟩:ah)).set ((j-1).toNat) (⟨Em.n,Em.l⟩:ah)),L9⟩) ⟨by dsimp only;omega,NR,(lY wy sa).trans hJ.2.2⟩ (by dsimp only;omega) [0] (Sub.refl _)
   refine zD 4<|ja (i+1) (by omega)<|zD 2<|bF bG (⟨(i+1),ys,L⟩) ⟨by dsimp only;omega,hJ.2⟩ (by dsimp only;omega) [0] (Sub.refl _)
  have k9:=h2
  replace k9:=of_decide_eq_false k9
  refine zD 18<|ja (i+1) (by omega)<|zD 2<|bF bG (⟨(i+1),ys,L⟩) ⟨by dsimp only;omega,hJ.2⟩ (by dsimp only;omega) [0] (Sub.refl _)
 refine zD 2<|zR (.tuple ⟨[]⟩) [] [0] L ⟨ys,hI.2.2,hI.2.1⟩
theorem aUA{v:Value}{xs:List ah}{L:Cells}{I2:Int}(ho:aw v 2 81 cK xs L)(hN:xs.length≤12):dG zT 249 [v,zI 0,zI (xs.length:Int),zI I2,.func (.func 212) ⟨[]⟩ ⟨[]⟩] ro L (fun r Y=>OP v xs Y):=by
 refine zC [.l L]<|zD 9<|dw [1,1,0,0] [] (fun(zz:Nat)=>[(0,v),(1,zI 0),(2,zI (xs.length:Int)),(3,zI I2),(4,.func (.func 212) ⟨[]⟩ ⟨[]⟩),(10,.bool true),(11,.bool true)]) (fun zz=>[.l L]) (fun zz=>True) (fun zz=>zz) 0 trivial [0] ?_
 rintro z hI K1 bG rest
 refine zD 5<|ja ((xs.length:Int)-0) (by omega)<|zD 8<|zJ 25 (((xs.length:Int)-0)≤12) (fun h1=>?_) fun h1=>?_
 ·
  refine zD 7<|jc (vs:=[v,zI 0,zI (xs.length:Int),.func (.func 212) ⟨[]⟩ ⟨[]⟩]) [0] (aUC ho (by omega) (by omega)) ?_
  rintro amF Y30 ⟨asT,Vy,uv⟩
  refine zD 2<|zR (.tuple ⟨[]⟩) [] [0] Y30 ⟨_,Vy,uv⟩
 exfalso;omega
theorem ajB{v:Value}{xs:List ah}{L:Cells}(ho:aw v 2 81 cK xs L)(hN:xs.length≤12):dG zT 211 [v,.func (.func 212) ⟨[]⟩ ⟨[]⟩] ro L (fun r Y=>OP v xs Y):=by
 refine zC [.l L]<|zD 3<|BQ ho<|zD 6<|je (zU (xs.length:Int)) (Xp (by omega))<|jp (vs:=[zU (xs.length:Int)]) [] [] (fun aG hs hZ=>(ayI (by omega)))<|zD 1<|jc (vs:=[v,zI 0,zI (xs.length:Int),zI (abA xs.length),.func (.func 212) ⟨[]⟩ ⟨[]⟩]) [0] (aUA ho (by omega)) ?_
 rintro at4 Y13 ⟨aAY,RQ,NQ⟩
 refine zD 1<|zR (.tuple ⟨[]⟩) [] [0] Y13 ⟨_,RQ,NQ⟩
theorem aH3{v:Value}{xs:List an}{L:Cells}(ho:aw v 3 132 cL xs L)(hN:xs.length≤1):dG zT 262 [v,zI 0,zI (xs.length:Int),.func (.func 182) ⟨[]⟩ ⟨[]⟩] ro L (fun r Y=>aw v 3 132 cL xs Y):=by
 refine zC [.l L]<|zD 7<|dw [1,0,0] [] (fun(zz:Nat)=>[(0,v),(1,zI 0),(2,zI (xs.length:Int)),(3,.func (.func 182) ⟨[]⟩ ⟨[]⟩),(8,zI (0+1))]) (fun zz=>[.l L]) (fun zz=>True) (fun zz=>zz) 0 trivial [0] ?_
 rintro z hI K1 bG rest
 refine zD 7<|zJ 14 ((0+1) <(xs.length:Int)) (fun h1=>?_) fun h1=>?_
 ·
  exfalso;omega
 refine zD 2<|zR (.tuple ⟨[]⟩) [] [0] L ho
theorem aHY{v:Value}{xs:List an}{L:Cells}{I2:Int}(ho:aw v 3 132 cL xs L)(hN:xs.length≤1):dG zT 236 [v,zI 0,zI (xs.length:Int),zI I2,.func (.func 182) ⟨[]⟩ ⟨[]⟩] ro L (fun r Y=>aw v 3 132 cL xs Y):=by
 refine zC [.l L]<|zD 9<|dw [1,1,0,0] [] (fun(zz:Nat)=>[(0,v),(1,zI 0),(2,zI (xs.length:Int)),(3,zI I2),(4,.func (.func 182) ⟨[]⟩ ⟨[]⟩),(10,.bool true),(11,.bool true)]) (fun zz=>[.l L]) (fun zz=>True) (fun zz=>zz) 0 trivial [0] ?_
 rintro z hI K1 bG rest
 refine zD 5<|ja ((xs.length:Int)-0) (by omega)<|zD 8<|zJ 25 (((xs.length:Int)-0)≤12) (fun h1=>?_) fun h1=>?_
 ·
  refine zD 7<|jc (vs:=[v,zI 0,zI (xs.length:Int),.func (.func 182) ⟨[]⟩ ⟨[]⟩]) [0] (aH3 ho (by omega)) ?_
  rintro amF Y30 uv
  refine zD 2<|zR (.tuple ⟨[]⟩) [] [0] Y30 uv
 exfalso;omega
theorem ayF{v:Value}{xs:List an}{L:Cells}(ho:aw v 3 132 cL xs L)(hN:xs.length≤1):dG zT 181 [v,.func (.func 182) ⟨[]⟩ ⟨[]⟩] ro L (fun r Y=>aw v 3 132 cL xs Y):=by
 refine zC [.l L]<|zD 3<|BQ ho<|zD 6<|je (zU (xs.length:Int)) (Xp (by omega))<|jp (vs:=[zU (xs.length:Int)]) [] [] (fun aG hs hZ=>(ayI (by omega)))<|zD 1<|jc (vs:=[v,zI 0,zI (xs.length:Int),zI (abA xs.length),.func (.func 182) ⟨[]⟩ ⟨[]⟩]) [0] (aHY ho (by omega)) ?_
 rintro at4 Y13 NQ
 refine zD 1<|zR (.tuple ⟨[]⟩) [] [0] Y13 NQ
theorem ajF{v:Value}{xs:List an}{L:Cells}(ho:aw v 3 132 cL xs L)(hN:xs.length≤1):dG zT 183 [v] ro L (fun r Y=>v=r∧L=Y):=by
 refine zC [.l L]<|zD 8<|BQ ho<|zD 2<|zJ 8 ((xs.length:Int) <2) (fun h1=>?_) fun h1=>?_
 ·
  refine zD 7<|zR (v) [] [0] L ⟨rfl,rfl⟩
 exfalso;omega
theorem ZC{v:Value}{xs:List an}(hl:bB ro v 3 cL xs)(hN:xs.length≤1):dG zT 131 [v] ro [] (fun r Y=>aw r 3 132 cL xs Y):=by
 obtain⟨fy,rX,rV,eO,rfl,tT,lN,mC⟩:=hl
 refine zE<|zD 7<|jc (vs:=[.slice fy xs.length eO]) [] (aUF (show bB _ _ _ _ _ from ⟨fy,rX,rV,eO,rfl,tT,lN,mC⟩) (by first|omega| (simp only[List.length_set,zM];omega))) ?_
 rintro v5 L5 ho5
 obtain⟨va5,vc5,he5⟩:=ho5.form
 subst he5
 refine zD 5<|jc (vs:=[(.slice va5 (xs).length vc5),.func (.func 182) ⟨[]⟩ ⟨[]⟩]) [0] (ayF ho5 (by omega)) ?_
 rintro rv7 Y7 TJ
 refine zD 4<|jc (vs:=[(.slice va5 (xs).length vc5)]) [0] (ajF TJ (by omega)) ?_
 rintro _ _ ⟨rfl,rfl⟩
 refine zD 3<|zR ((.slice va5 (xs).length vc5)) [] [0] Y7 TJ
theorem MV.put{Z2:Cells}{F:List (an×Value)}{g:an→an}(h:MV Z F g){k:an}{v:Value}(hv:∀aD,Knows aD Z2→bB aD v 3 cL [g k]):MV (Z++Z2) (mi k v F) g:=by
 have h1:∀x∈mi k v F,x=(k,v)∨x∈F:=fun x hx=>by
  unfold mi at hx
  split at hx
  ·rw[Ff] at hx
   obtain⟨i,hi⟩:=List.getElem?_of_mem hx
   rw[List.getElem?_set] at hi
   split at hi
   ·split at hi
    ·cases hi;exact .inl rfl
    cases hi
   exact .inr (zL hi)
  rcases List.mem_append.1 hx with h|h
  ·exact .inr h
  exact .inl (List.mem_singleton.1 h)
 intro aD hr x hx
 rcases h1 x hx with rfl|hx
 ·exact hv aD hr.right
 exact h aD hr.left x hx
theorem PJ{κ:Type}[DecidableEq κ]{k x:κ}{v:Value}{F:List (κ×Value)}(h:x=k∨x∈F.map (·.1)):x∈(mi k v F).map (·.1):=by
 unfold mi
 split
 ·rename_i i u hf
  have zc:=(qB hf).2
  rw[Nat.sub_zero] at zc
  have hs:((F.set i (k,v)).map (·.1))=F.map (·.1):=by
   rw[List.map_set]
   refine List.ext_getElem? fun j=>?_
   rw[List.getElem?_set]
   split
   ·rename_i hj;subst hj;simp[zc,(List.getElem?_eq_some_iff.1 zc).1,(List.getElem?_eq_some_iff.1 zc).2]
   rfl
  rw[Ff,hs]
  rcases h with rfl|h
  ·exact List.mem_map_of_mem (f:=(·.1)) (zL zc)
  exact h
 rw[List.map_append]
 rcases h with rfl|h
 ·exact List.mem_append_right _ (by simp)
 exact List.mem_append_left _ h
def Seen(es:Array MapEntry)(seen:List Nat)(F:List (an×Value)):Prop:=∀e∈es.toList,e∈cM es seen∨∃k,e.key=oV k∧k∈F.map (·.1)
theorem Seen.start{es:Array MapEntry}{F:List (an×Value)}:Seen es [] F:=fun e he=> .inl (by rw[CE];exact he)
theorem Seen.step{es:Array MapEntry}{F0 F:List (an×Value)}(h:Seen es seen F)(hE:tF oV F0 es ck){e:MapEntry}(he:e∈cM es seen){k:an}(hk:e.key=oV k){v:Value}:Seen es (seen++[e.born]) (mi k v F):=fun x hx=>by
 rcases h x hx with h1| ⟨q,h1,h2⟩
 ·rcases U7 hE he h1 with rfl|h2
  ·exact .inr ⟨k,hk,PJ (.inl rfl)⟩
  exact .inl h2
 exact .inr ⟨q,h1,PJ (.inr h2)⟩
theorem anQ{a b:an}(h:oV a=oV b):a=b:=by
 rcases a with ⟨x,y,z⟩;rcases b with ⟨d,e,f⟩
 simp only[oV,cL,Value.agg.injEq,Array.mk.injEq,List.cons.injEq,Value.int.injEq] at h
 simp[h.1.2,h.2.1.2,h.2.2.1.2]
theorem Seen.fin{es:Array MapEntry}{F0 F:List (an×Value)}(h:Seen es seen F)(hl:cM es seen=[])(hE:tF oV F0 es ck){k:an}(hk:k∈F0.map (·.1)):k∈F.map (·.1):=by
 obtain⟨⟨k',v⟩,h1,rfl⟩:=List.mem_map.1 hk
 have:(oV k',v)∈es.toList.map (fun e=>(e.key,e.val)):=by rw[hE.1];exact List.mem_map_of_mem (f:=fun x:an×Value=>(oV x.1,x.2)) h1
 obtain⟨e,h2,h3⟩:=List.mem_map.1 this
 simp only[Prod.mk.injEq] at h3
 rcases h e h2 with h4| ⟨q,h4,h5⟩
 ·rw[hl] at h4;cases h4
 have:=anQ (h3.1.symm.trans h4);subst this;exact h5
structure Tp(ro:Nat→Option Obj)(r:Nat)(H:List an)(g:an→an)(es:Array MapEntry)(ck:Nat)(F:List (an×Value)):Prop where
 m:ro r=some (.map es ck)
 e:tF oV F es ck
 k:F.map (·.1)=H
 v:∀x∈F,bB ro x.2 3 cL [g x.1]
theorem GS{a x:α}{j:Nat}(h: [a][j]?=some x):x=a∧j=0:=by
 cases j with
 |zero=>simp at h;exact⟨h.symm,rfl⟩
 |succ j=>simp at h
theorem asb{BV:Array MapEntry}{F1:List (an×Value)}{r2 ck2:Nat}{Br:Array MapEntry}{F2:List (an×Value)}{H:List an}{g:an→an}(Jg:Tp ro r1 H id BV Jk F1)(hP2:Tp ro r2 H g Br ck2 F2):dG zT 206 [(.map (some r1)),(.map (some r2))] ro [] (fun r Y=>∃rm F LM Z,r= .map (some rm)∧Y=LM++Z∧jU rm oV F LM∧(∀h∈H,h∈F.map (·.1))∧MV Z F g):=by
 refine zE<|zD 6<|jmk oV fun GB L11 ah4=>zD 6<|jmR Jg.m fun r13=>jg 0 [.b r13 (uQ r1 Jk [])]<|zD 2<|nI<|dw [1,1,0,1,0,0] [] (fun(zz:(List Nat)×(List (an×Value))×Cells×Cells)=>[(1,(.map (some r2))),(4,(.map none)),(5,(.map (some GB))),(13,zP r13)]) (fun(zz:(List Nat)×(List (an×Value))×Cells×Cells)=>[.b r13 (uQ r1 Jk zz.1),.l zz.2.2.1,.l zz.2.2.2]) (fun(zz:(List Nat)×(List (an×Value))×Cells×Cells)=>jU GB oV zz.2.1 zz.2.2.1∧Seen BV zz.1 zz.2.1∧MV zz.2.2.2 zz.2.1 g) (fun(zz:(List Nat)×(List (an×Value))×Cells×Cells)=>(cM BV zz.1).length) (⟨[],[],L11,[]⟩) ⟨ah4,Seen.start,fun _ _ _ h=>(by cases h)⟩ [1,2,0] ?_
 rintro⟨seen,F,LM,Z⟩ hI K1 bG rest
 dsimp only at hI
 refine zD 2<|jmN (it:=r13) (kv:=oV) (seen:=seen) 0 Jg.m Jg.e (fun O8 v14 Oo aGw tt ab2 aQD=>?_) (fun aP3=>?_)
 ·
  have hkH:O8∈H:=by rw[←Jg.k];exact List.mem_map_of_mem (f:=(·.1)) aGw
  have hvv:bB ro v14 3 cL [O8]:=Jg.v _ aGw
  obtain⟨Qo,qvb,qvo,Eu,rfl,qvk,UK,UJ⟩:=hvv
  refine jg 0 [.b r13 (uQ r1 Jk (seen++[Oo.born]))]<|zD 8<|jmE (it:=r13) 0 Jg.m Jg.e tt ab2 aQD<|jg 0 [.b r13 (uQ r1 Jk (seen++[Oo.born]))]<|zD 2<|jn fun b6=>jd 15 [0]<|nI<|dw [1,1,0,1,0,0,1,1,0,1,1,0,1,0,0] [K1] (fun(zz:Nat×Value×Cells)=>[(1,(.map (some r2))),(4,(.map none)),(5,(.map (some GB))),(6,zP b6),(8,zz.2.1),(13,zP r13),(19,.slice Qo ([O8].length) Eu),(20,zI ([O8].length:Int)),(21,zI (zz.1:Int))]) (fun zz=>[.l zz.2.2,.b b6 (.cells ⟨[zI O8.h,zI O8.n,zI O8.l]⟩ 132 (0,0)),.b r13 (uQ r1 Jk (seen++[Oo.born])),.l LM,.l Z]) (fun zz=>zz.1≤[O8].length∧aw zz.2.1 3 132 cL ([g O8].take zz.1) zz.2.2) (fun zz=>[O8].length-zz.1) (⟨0,zS,[]⟩) ⟨by simp,aw.nil _ _ _⟩ (zN 0 5) ?_
  rintro⟨i,vO,LO⟩ hJ K2 jV rest
  dsimp only at hJ
  have R7: [O8].length=1:=rfl
  refine zD 5<|zJ 22 ((i:Int) <([O8].length:Int)) (fun h1=>?_) fun h1=>?_
  ·
   refine zD 6 ?_
   obtain⟨vo,tj⟩:=zG ([O8]) i
   refine gX Eu 3 UK tj<|jl 0 (UJ _ _ tj)<|jn fun pf=>jd 2 [0] ?_
   obtain⟨hxe,hj0⟩:=GS tj
   refine jd 4 [0]<|jlu (kv:=oV) (F:=F2) (r:=r2) (K:=132) vo (zS) false [] [] DW (fun s he _=>⟨_,_,he _ _ (.inl hP2.m),hP2.e⟩) ?_
   obtain⟨w28,aQo,awZ⟩:=YA (k:=vo) (F:=F2) (by rw[hP2.k,hxe];exact hkH)
   have hww:bB ro w28 3 cL [g vo]:=hP2.v _ awZ
   obtain⟨UI,qwb,qwo,M1,rfl,qwk,qwh,qwl⟩:=hww
   refine jw 28 (.slice UI ([g vo].length) M1) (show Rj (zS) false vo F2=_ from by simp only[Rj,aQo];rfl) ?_
   refine iK (sz:=3) (ps:=([g O8].take i)) (qs:=[g vo]) (enc:=cL) (w:= .slice UI ([g vo].length) M1) [1] [] [] (hJ.2) (fun s he _=>⟨UI,qwb,qwo,M1,rfl,qwh,fun i p hp=>(qwl i p hp).ext he⟩) (fun p _=>ai rfl) (by simp only[List.length_take,List.length_cons,List.length_nil];omega) (fun v29 L29 HB=>?_)
   obtain⟨ad8,ad1,air⟩:=HB.form
   subst air
   refine zD 3<|ja ((i:Int)+1) (by omega)<|zD 2<|bF jV (⟨i+1,(.slice ad8 ((([g O8].take i)++[g vo])).length ad1),L29⟩) ⟨by dsimp only;omega,by have:=HB;rw[hj0] at this ⊢;rw[hxe] at this;exact this⟩ (by dsimp only;omega) [0,2,3,4,5] (Sub.refl _)
  refine jd 6 [1]<|aS 3 fun oP oR nK=>jcL (vs:=[vO]) [] [0] LO (fun aG hs hZ=>ZC (hJ.2.jF hZ) (by simp only[List.length_take,List.length_cons,List.length_nil];omega)) ?_
  rintro v34 L34 aRl
  refine eG nK (zN 1 5)<|aS 4 fun qU qV pK=>jmu (kv:=oV) (F:=F) (r:=GB) (K:=132) 4 O8 (v34) DW hI.1 fun Lm4 hm4=>fW pK<|zD 1<|JG bG (⟨(seen++[Oo.born]),_,Lm4,Z++L34⟩) ⟨hm4,hI.2.1.step Jg.e tt ab2,hI.2.2.put fun aD hk=>(by have:=aRl;rw[show ([g O8].take i)=[g O8] from List.take_of_length_le (by simp;omega)] at this;exact this.jF hk)⟩ (Ha tt) [[4],[0],[5,1]] (Sub.refl _)
 refine jg 0 [.b r13 (uQ r1 Jk seen)]<|zD 11<|zR ((.map (some GB))) [] [1,2] (LM++Z) ⟨GB,F,LM,Z,rfl,rfl,hI.1,fun h hh=>hI.2.1.fin aP3 Jg.e (by rw[Jg.k];exact hh),hI.2.2⟩
theorem agk{κ:Type}{kv:κ→Value}{F:List (κ×Value)}{es:Array MapEntry}(h:tF kv F es ck):es.toList.length=F.length:=by
 have:=congrArg List.length h.1
 simpa using this
theorem ajH{BV:Array MapEntry}{F1:List (an×Value)}{H:List an}{g:an→an}(Jg:Tp ro r1 H g BV Jk F1)(hn:H.length≤8)(hS:∀x∈F1,(g x.1).h=0∨(g x.1).h=1):dG zT 149 [(.map (some r1)),zI 2] ro [] (fun r Y=>∃a n c,r= .agg ⟨[.slice a n c]⟩):=by
 refine zE<|zD 2<|jn fun b4=>zD 4<|jmS (E:=82) (z:= zS) fun vz=>jg 0 [.b vz (.cells ⟨[zS,zS]⟩ 82 (0,0))]<|zD 1<|jn fun b5=>jd 6 [0]<|jmR Jg.m fun r16=>jg 0 [.b r16 (uQ r1 Jk [])]<|zD 2<|nI<|nI<|dw [1,1,0,1,0,0] [] (fun(zz:(List Nat)×Value×Cells×(List ah)×Value×Cells×(List ah))=>[(4,zP b4),(5,zP b5),(16,zP r16)]) (fun zz=>[.b r16 (uQ r1 Jk zz.1),.b vz (.cells ⟨[zz.2.1,zz.2.2.2.2.1]⟩ 82 (0,0)),.l zz.2.2.1,.l zz.2.2.2.2.2.1,.b b5 (.cells ⟨[.slice (some ⟨vz,0,none⟩) 2 2]⟩ 25 (0,0)),.b b4 (.cells ⟨[zS]⟩ 25 (0,0))]) (fun zz=>zz.2.2.2.1.length+zz.2.2.2.2.2.2.length+(cM BV zz.1).length≤8∧aw zz.2.1 2 81 cK zz.2.2.2.1 zz.2.2.1∧aw zz.2.2.2.2.1 2 81 cK zz.2.2.2.2.2.2 zz.2.2.2.2.2.1) (fun zz=>(cM BV zz.1).length) (⟨[],zS,[],[],zS,[],[]⟩) ⟨by rw[CE,agk Jg.e];have:=congrArg List.length Jg.k;simp at this ⊢;omega,aw.nil _ _ _,aw.nil _ _ _⟩ [2,4,1,0,3,5] ?_
 rintro⟨seen,w0,L0,p0,w1,L1,p1⟩ hI K1 bG rest
 dsimp only at hI
 refine zD 2<|jmN (it:=r16) (kv:=oV) (seen:=seen) 0 Jg.m Jg.e (fun k17 v17 e17 aoJ JV ab1 aQB=>?_) (fun bcK=>?_)
 ·
  have hvv:bB ro v17 3 cL [g k17]:=Jg.v _ aoJ
  obtain⟨Qo,qvb,qvo,Eu,rfl,qvk,UK,UJ⟩:=hvv
  have hsg:(g k17).h=0∨(g k17).h=1:=hS _ aoJ
  have cJ:=Ha JV
  refine jg 0 [.b r16 (uQ r1 Jk (seen++[e17.born]))]<|zD 8<|jmE (it:=r16) 0 Jg.m Jg.e JV ab1 aQB<|jg 0 [.b r16 (uQ r1 Jk (seen++[e17.born]))]<|zD 10<|dw [1,1,0,1,0,0,1,1,0,1,1,0,0] [K1] (fun(zz:Nat×Value×Cells×(List ah)×Value×Cells×(List ah))=>[(4,zP b4),(5,zP b5),(16,zP r16),(21,.slice Qo ([g k17].length) Eu),(22,zI ([g k17].length:Int)),(23,zI (zz.1:Int))]) (fun zz=>[.b r16 (uQ r1 Jk (seen++[e17.born])),.b vz (.cells ⟨[zz.2.1,zz.2.2.2.2.1]⟩ 82 (0,0)),.l zz.2.2.1,.l zz.2.2.2.2.2.1,.b b5 (.cells ⟨[.slice (some ⟨vz,0,none⟩) 2 2]⟩ 25 (0,0)),.b b4 (.cells ⟨[zS]⟩ 25 (0,0))]) (fun zz=>(zz.1≤1∧zz.2.2.2.1.length+zz.2.2.2.2.2.2.length+(cM BV (seen++[e17.born])).length+(1-zz.1)≤8)∧aw zz.2.1 2 81 cK zz.2.2.2.1 zz.2.2.1∧aw zz.2.2.2.2.1 2 81 cK zz.2.2.2.2.2.2 zz.2.2.2.2.2.1) (fun zz=>1-zz.1) (⟨0,w0,L0,p0,w1,L1,p1⟩) ⟨by dsimp only;omega,hI.2⟩ (zN 0 6) ?_
  rintro⟨i,w0,L0,p0,w1,L1,p1⟩ hJ K2 jV rest
  dsimp only at hJ
  have R7: [g k17].length=1:=rfl
  refine zD 5<|zJ 24 ((i:Int) <([g k17].length:Int)) (fun h1=>?_) fun h1=>?_
  ·
   refine zD 6 ?_
   obtain⟨xf,ju⟩:=zG ([g k17]) i
   refine gX Eu 3 UK ju<|jl 0 (UJ _ _ ju) ?_
   obtain⟨hxe,hi0⟩:=GS ju;rw[←hxe] at hsg;obtain⟨xh,xn,xl⟩:=xf;dsimp only at hsg;rcases hsg with rfl|rfl
   ·
    refine jn fun b9=>jd 11 [0,5,0,5,0]<|jd 4 [2,0]<|aS 12 fun oP oR nK=>jn fun b39=>eG nK (zN 1 7)<|aS 13 fun qU qV pK=>iK (sz:=2) (ps:=p0) (qs:=[(⟨xn,xl⟩:ah)]) (enc:=cK) (w:= .slice (some ⟨b39,0,none⟩) 1 1) [4] [0] [(b39,.cells ⟨([(⟨xn,xl⟩:ah)].map cK).flatten⟩ 81 (0,0))] (hJ.2.1) (fun s _ hZ=>bV [(⟨xn,xl⟩:ah)] (hZ _ (.head _)) (by intro p hp;rfl)) (fun p _=>ai rfl) (by simp only[List.length_cons,List.length_nil];omega) (fun v40 L40 Hy=>?_)
    obtain⟨atm,atc,axC⟩:=Hy.form
    subst axC
    refine gx pK [[2],[6],[2],[6]]<|zD 1<|aS 15 fun yz yF zh=>jd 1 [4]<|fW zh<|zD 2<|ja ((i:Int)+1) (by omega)<|zD 2<|bF jV (⟨i+1,(.slice atm ((p0++[(⟨xn,xl⟩:ah)])).length atc),L40,(p0++[(⟨xn,xl⟩:ah)]),w1,L1,p1⟩) ⟨by simp only[zM];omega,Hy,hJ.2.2⟩ (by dsimp only;omega) [3,4,0,5,6,7] (Sub.refl _)
   refine jn fun b9=>jd 11 [0,5,0,5,0]<|jd 4 [2,0]<|aS 12 fun aap aaD V5=>jn fun b39=>eG V5 (zN 1 7)<|aS 13 fun ady aej N1=>iK (sz:=2) (ps:=p1) (qs:=[(⟨xn,xl⟩:ah)]) (enc:=cK) (w:= .slice (some ⟨b39,0,none⟩) 1 1) [5] [0] [(b39,.cells ⟨([(⟨xn,xl⟩:ah)].map cK).flatten⟩ 81 (0,0))] (hJ.2.2) (fun s _ hZ=>bV [(⟨xn,xl⟩:ah)] (hZ _ (.head _)) (by intro p hp;rfl)) (fun p _=>ai rfl) (by simp only[List.length_cons,List.length_nil];omega) (fun v40 L40 Hy=>?_)
   obtain⟨atm,atc,axC⟩:=Hy.form
   subst axC
   refine gx N1 [[2],[6],[2],[6]]<|zD 1<|aS 15 fun aao aaC hL8=>jd 1 [4]<|fW hL8<|zD 2<|ja ((i:Int)+1) (by omega)<|zD 2<|bF jV (⟨i+1,w0,L0,p0,(.slice atm ((p1++[(⟨xn,xl⟩:ah)])).length atc),L40,(p1++[(⟨xn,xl⟩:ah)])⟩) ⟨by simp only[zM];omega,hJ.2.1,Hy⟩ (by dsimp only;omega) [3,4,5,0,6,7] (Sub.refl _)
  refine zD 2<|bF bG (⟨(seen++[e17.born]),w0,L0,p0,w1,L1,p1⟩) ⟨by dsimp only;omega,hJ.2⟩ cJ (zN 0 6) (Sub.refl _)
 refine jg 0 [.b r16 (uQ r1 Jk seen)]<|jd 14 [4]<|dw [1,1,1,0,1,0,0] [] (fun(zz:Nat×Value×Cells×(List ah)×Value×Cells×(List ah))=>[(4,zP b4),(5,zP b5),(44,.slice (some ⟨vz,0,none⟩) 2 2),(45,zI 2),(46,zI (zz.1:Int))]) (fun zz=>[.b vz (.cells ⟨[zz.2.1,zz.2.2.2.2.1]⟩ 82 (0,0)),.l zz.2.2.1,.l zz.2.2.2.2.2.1,.b b5 (.cells ⟨[.slice (some ⟨vz,0,none⟩) 2 2]⟩ 25 (0,0)),.b b4 (.cells ⟨[zS]⟩ 25 (0,0))]) (fun zz=>(zz.1≤2∧zz.2.2.2.1.length≤8∧zz.2.2.2.2.2.2.length≤8)∧aw zz.2.1 2 81 cK zz.2.2.2.1 zz.2.2.1∧aw zz.2.2.2.2.1 2 81 cK zz.2.2.2.2.2.2 zz.2.2.2.2.2.1) (fun zz=>2-zz.1) (⟨0,w0,L0,p0,w1,L1,p1⟩) ⟨by dsimp only;omega,hI.2⟩ (zN 1 5) ?_
 rintro⟨k,w0,L0,p0,w1,L1,p1⟩ hQ K9 hK9 rest
 dsimp only at hQ
 refine zD 5<|zJ 47 ((k:Int) <2) (fun h8=>?_) fun h8=>?_
 ·
  refine zD 6 ?_
  rcases(show k=0∨k=1 by omega) with hk0|hk0
  ·
   refine jw 46 (zI 0) (show Value.int .i64 (k:Int)= zI 0 by rw[hk0];rfl) ?_
   refine jd 6 [0]<|jc (vs:=[w0,.func (.func 212) ⟨[]⟩ ⟨[]⟩]) [1] (ajB hQ.2.1 (by omega)) ?_
   rintro aM6 Y51 ⟨asS,awD,awN⟩
   refine zD 5 ?_
   have hle:=awD.length_eq
   exact bF hK9 (⟨1,w0,Y51,asS,w1,L1,p1⟩) ⟨by dsimp only;omega,awN,hQ.2.2⟩ (by dsimp only;omega) [1,0,2,3,4] (Sub.refl _)
  refine jw 46 (zI 1) (show Value.int .i64 (k:Int)= zI 1 by rw[hk0];rfl) ?_
  refine jd 6 [0]<|jc (vs:=[w1,.func (.func 212) ⟨[]⟩ ⟨[]⟩]) [2] (ajB hQ.2.2 (by omega)) ?_
  rintro aM6 Y51 ⟨asS,awD,awN⟩
  refine zD 5 ?_
  have hle:=awD.length_eq
  exact bF hK9 (⟨2,w0,L0,p0,w1,Y51,asS⟩) ⟨by dsimp only;omega,hQ.2.1,awN⟩ (by dsimp only;omega) [1,2,0,3,4] (Sub.refl _)
 refine jd 8 [3,4]<|zR (.agg ⟨[.slice (some ⟨vz,0,none⟩) 2 2]⟩) [4] [] [] ⟨_,_,_,rfl⟩
structure Xd where
 a:Option Addr
 n:Nat
 c:Nat
 ea:Option Addr
 en:Nat
 ec:Nat
 r:Nat
abbrev akf(t:Xd):List Value:=[.slice t.a t.n t.c,.slice t.ea t.en t.ec,.map (some t.r)]
structure TrD where
 ways:List Int
 g:an→an
def aVQ(ro:Nat→Option Obj)(r:Nat)(H:List an)(g:an→an):Prop:=∃es ck F,ro r=some (.map es ck)∧tF oV F es ck∧(∀h∈H,h∈F.map (·.1))∧∀y∈F,bB ro y.2 3 cL [g y.1]
def TrR(H:List an)(ro:Nat→Option Obj)(t:Xd)(x:TrD):Prop:=bB ro (.slice t.a t.n t.c) 1 cy x.ways∧aVQ ro t.r H x.g
def TrO(H:List an)(LL:Cells)(t:Xd)(x:TrD):Prop:=∀aD,Knows aD LL→TrR H aD t x
abbrev apr(H:List an)(L:List TrD):(Nat→Option Obj)→Nat→List Value→Cells→Prop:=fun _ k vs LL=>∃x t,L[k]?=some x∧vs=[.agg ⟨akf t⟩]∧TrO H LL t x
def atz(S:List (List ah))(l:List aN)(i:Nat):TrD:=⟨[(i:Int)],match l[i]? with
 |some c=>yW S c
 |none=>id⟩
def db(S:List (List ah)):List (List aN)→List TrD
 | []=>[⟨[],id⟩]
 |l::_=>(List.range l.length).map (atz S l)
theorem J9{S:List (List ah)}{l:List aN}{c:aN}(h:l[i]?=some c):(db S [l])[i]?=some ⟨[(i:Int)],yW S c⟩:=by
 have hi:=(List.getElem?_eq_some_iff.1 h).1
 simp only[db,List.getElem?_map,List.getElem?_range hi,Option.map_some,atz,h]
structure yx(ways:List (List aN)):Prop where
 one:ways.length≤1
 ok:∀l∈ways,(1≤l.length∧l.length≤3)∧∀c∈l,jA c
theorem aIw{c:aN}(h:jA c):1≤c.k∧c.k≤7:=by
 simp only[jA,List.mem_cons,List.not_mem_nil,or_false] at h
 rcases h with rfl|rfl|rfl|rfl|rfl<;>simp
theorem asa{x:an}:∀(u:List (an×an)) (y:an),u.foldl (fun y p=>if x=p.1 then p.2 else y) y=y∨∃p∈u,u.foldl (fun y p=>if x=p.1 then p.2 else y) y=p.2
 | [],y=> .inl rfl
 |p::u,y=>by
  simp only[List.foldl_cons]
  rcases asa (x:=x) u (if x=p.1 then p.2 else y) with h| ⟨q,hq,h⟩
  ·rw[h]
   split
   ·exact .inr ⟨p,by simp,rfl⟩
   exact .inl rfl
  exact .inr ⟨q,by simp[hq],h⟩
theorem ayE{u:List (an×an)}{x:an}:gU u x=x∨∃p∈u,gU u x=p.2:=asa u x
theorem af9{S:List (List ah)}{c:aN}(hc:jA c){x:an}(hx:x.h=0∨x.h=1):(yW S c x).h=0∨(yW S c x).h=1:=by
 rcases ayE (u:=ayU S c) (x:=x) with h| ⟨p,hp,h⟩
 ·rw[yW,h];exact hx
 rw[yW,h]
 simp only[jA,List.mem_cons,List.not_mem_nil,or_false] at hc
 rcases hc with rfl|rfl|rfl|rfl|rfl<;>simp[ayU,aed,Kj,Lu,Jr,mD] at hp
 ·obtain⟨_,_,_,_,_,rfl⟩:=hp;exact .inl rfl
 ·obtain⟨_,_,rfl⟩:=hp;exact .inl rfl
 ·obtain⟨_,_,_,_,_,rfl⟩:=hp;exact .inr rfl
 ·obtain⟨_,_,rfl⟩:=hp;exact .inr rfl
 obtain⟨_,_,rfl⟩:=hp;exact .inl rfl
theorem RR{S:List (List ah)}(hO:eS S){x:an}(hx:x∈bI S):x.h=0∨x.h=1:=by
 obtain⟨j,l,p,h1,_,_,rfl⟩:=Fq.1 hx
 have:=hO.two
 simp only[mD];omega
theorem Tp.up{r:Nat}{H:List an}{g:an→an}{es:Array MapEntry}{F:List (an×Value)}(h:Tp ro r H g es ck F)(hs:Sub ro aD):Tp aD r H g es ck F:=⟨hs _ _ h.m,h.e,h.k,fun x hx=>(h.v x hx).up hs⟩
theorem aUD{v:Value}{S:List (List ah)}{c:aN}(hc:jA c)(hS:cW ro v S)(hO:eS S):dG zT 204 [.agg ⟨[v]⟩,.agg ⟨kS c⟩] ro [] (fun r Y=>∃rm F LM Z,r= .tuple ⟨[.map (some rm),zI 0]⟩∧Y=LM++Z∧jU rm oV F LM∧F.map (·.1)=bI S∧MV Z F (yW S c)):=by
 simp only[jA,List.mem_cons,List.not_mem_nil,or_false] at hc
 rcases hc with rfl|rfl|rfl|rfl|rfl
 ·exact aIb hS hO
 ·exact aIa hS hO
 ·exact aH9 hS hO
 ·exact aH8 hS hO
 exact aH7 hS hO
def J5(ro:Nat→Option Obj)(b:Nat)(S:List (List ah))(ways:List (List aN)):Prop:=∃vS vT vH fa fc,ro b=some (.cells ⟨[vS,vT,.slice fa 0 fc,vH]⟩ 233 (0,0))∧cW ro vS S∧nU ro vT ways∧bB ro vH 3 cL (bI S)
theorem J5.up{S:List (List ah)}(h:J5 ro b S ways)(hs:Sub ro aD):J5 aD b S ways:=by
 obtain⟨vS,vT,vH,fa,fc,h1,h2,h3,h4⟩:=h
 exact⟨vS,vT,vH,fa,fc,hs _ _ h1,h2.up hs,h3.up hs,h4.up hs⟩
theorem ayL{fa:Option Addr}{S:List (List ah)}(hS:cW ro vS S)(hO:eS S)(hT:nU ro vT ways)(hW:yx ways):dG zT 142 [.agg ⟨[vS,vT,.slice fa 0 fc]⟩] ro [] (fun r Y=>∃b vH LH,r= .tuple ⟨[zP b,zI 0]⟩∧Y=(b,.cells ⟨[vS,vT,.slice fa 0 fc,vH]⟩ 233 (0,0))::LH∧aw vH 3 132 cL (bI S) LH):=by
 have yl:=hS
 obtain⟨ig,hs,fg⟩:=hS
 obtain⟨lv,Qs,Qq,kH,rfl,Qr,Jv,Ju⟩:=hs
 obtain⟨iO,ht,eX⟩:=id hT
 obtain⟨eR,AK,AI,dS,rfl,AJ,sG,sE⟩:=ht
 have I9:=fg.len
 have EP:=eX.len
 have JL:=hO.two
 have A9:=hW.one
 have O3:∀(i:Nat) (p:da),([]:List da)[i]?=some p→cD ⟨ro,[]⟩ 0 (0+i*6) 6 (mN p):=fun _ _ h=>oB h
 refine zE<|zD 2<|jn fun b1=>jd 8 [0]<|jp (vs:=[.agg ⟨[.slice lv ig.length kH]⟩]) [] [] (fun aG hs hZ=>ayK (yl.up hs) hO)<|jd 17 [0]<|zJ 21 ((iO.length:Int)>3) (fun h1=>?_) fun h1=>?_
 ·
  exfalso;omega
 refine jd 11 [0]<|dw [1,1,1,0,1,0,0] [] (fun(zz:Nat)=>[(1,zP b1),(23,.slice eR iO.length dS),(24,zI (iO.length:Int)),(25,zI (zz:Int))]) (fun zz=>[.b b1 (.cells ⟨[.slice lv ig.length kH,.slice eR iO.length dS,.slice fa 0 fc]⟩ 29 (0,0))]) (fun zz=>zz≤iO.length) (fun zz=>iO.length-zz) 0 (by omega) [0] ?_
 rintro k hI K1 bG rest
 refine zD 5<|zJ 26 ((k:Int) <(iO.length:Int)) (fun h2=>?_) fun h2=>?_
 ·
  refine zD 6 ?_
  obtain⟨x27,CN⟩:=zG iO k
  refine gX dS 1 sG CN ?_
  obtain⟨l28,aRM,h28⟩:=eX.get CN
  obtain awZ:=hW.ok _ (zL aRM)
  obtain⟨aDn,bbN,bbL,auL,rfl,bbM,aOc,aOb⟩:=h28
  refine jl 0 (sE _ _ CN)<|jn fun b6=>jd 10 [0,0]<|zJ 32 ((l28.length:Int)=0) (fun h3=>?_) fun h3=>?_
  ·
   exfalso;omega
  refine jd 10 [0]<|zJ 36 ((l28.length:Int)>3) (fun h4=>?_) fun h4=>?_
  ·
   exfalso;omega
  refine jd 10 [0]<|dw [1,1,1,0,1,0,0,1,1,0,0,1,1,1,1,0,0] [K1] (fun(zz:Nat)=>[(1,zP b1),(23,.slice eR iO.length dS),(24,zI (iO.length:Int)),(25,zI (k:Int)),(38,.slice aDn l28.length auL),(39,zI (l28.length:Int)),(40,zI (zz:Int))]) (fun zz=>[.b b6 (.cells ⟨[.slice aDn l28.length auL]⟩ 89 (0,0)),.b b1 (.cells ⟨[.slice lv ig.length kH,.slice eR iO.length dS,.slice fa 0 fc]⟩ 29 (0,0))]) (fun zz=>zz≤l28.length) (fun zz=>l28.length-zz) 0 (by omega) [0,1] ?_
  rintro i hJ K2 jV rest
  refine zD 5<|zJ 41 ((i:Int) <(l28.length:Int)) (fun h5=>?_) fun h5=>?_
  ·
   refine zD 6 ?_
   obtain⟨x42,Vn⟩:=zG l28 i
   refine gX auL 7 aOc Vn<|jl 0 (aOb _ _ Vn)<|jn fun b8=>jd 3 [0] ?_
   have Zs:=aIw (awZ.2 _ (zL Vn))
   refine jd 3 [0]<|jp (vs:=[zI x42.k,zI 1,zI 7]) [] [] (fun aG hs hZ=>Be)<|zD 2<|js 47 (!(iI x42.k 1 7)) (fun h6=>?_) (fun h6=>?_)
   ·
    try simp only[zB] at h6
    exfalso;simp only[iI,Bool.and_eq_false_iff,decide_eq_false_iff_not] at h6;omega
   try simp only[zB] at h6
   refine zD 3<|ja ((i:Int)+1) (by omega)<|zD 2<|bF jV (i+1) (by omega) (by omega) [1,2] (Sub.refl _)
  refine zD 3<|ja ((k:Int)+1) (by omega)<|zD 2<|bF bG (k+1) (by omega) (by omega) [1] (Sub.refl _)
 refine jd 17 [0,0,0]<|aS 3 fun oP oR nK=>jc (vs:=[.agg ⟨[.slice lv ig.length kH]⟩]) [] (ZD yl hO) ?_
 rintro v57 L57 aou
 obtain⟨amn,aml,aio⟩:=aou.form
 subst aio
 refine eG nK [1]<|zD 1<|aS 5 fun qU qV pK=>jn fun b59=>eG pK [1,2]<|jd 11 [2]<|dw [1,1,1,1,1,1,0,1,0,0] [] (fun(zz:Nat)=>[(1,zP b1),(9,zP b59),(61,.slice fa 0 fc),(62,zI 0),(63,zI 0)]) (fun zz=>[.b b59 (.cells ⟨[.slice lv ig.length kH,.slice eR iO.length dS,.slice fa 0 fc,(.slice amn (bI S).length aml)]⟩ 233 (0,0)),.l L57,.b b1 (.cells ⟨[.slice lv ig.length kH,.slice eR iO.length dS,.slice fa 0 fc]⟩ 29 (0,0))]) (fun zz=>True) (fun zz=>zz) 0 trivial [0,1,2] ?_
 rintro z hQ K5 hK5 rest
 refine zD 14<|zR (.tuple ⟨[zP b59,zI 0]⟩) [] [0,1] ((b59,.cells ⟨[.slice lv ig.length kH,.slice eR iO.length dS,.slice fa 0 fc,(.slice amn (bI S).length aml)]⟩ 233 (0,0))::L57) ⟨_,_,_,rfl,rfl,aou⟩
structure ac4(ro:Nat→Option Obj)(bl b b1 b2 b3:Nat):Prop where
 t:ro b1=some (.cells ⟨[zP b]⟩ 195 (0,0))
 y:ro b2=some (.cells ⟨[.func (.yield bl) #[] #[]]⟩ 307 (0,0))
 g:ro b3=some (.cells ⟨[.func (.func 202) ⟨[]⟩ ⟨[zP b1,zP b2,zP b3]⟩]⟩ 307 (0,0))
theorem ac4.up(h:ac4 ro bl b b1 b2 b3)(hs:Sub ro aD):ac4 aD bl b b1 b2 b3:=⟨hs _ _ h.t,hs _ _ h.y,hs _ _ h.g⟩
theorem aH5{t:Xd}{S:List (List ah)}(Jf:J5 ro b S ways):du zT 203 [zP b,.agg ⟨[.slice t.a t.n t.c,.slice t.ea t.en t.ec,(.map (some t.r))]⟩] ro (.bool true):=by
 obtain⟨vS,vT,vH,fa,fc,gb,hS,hT,hHs⟩:=Jf
 have yl:=hS
 obtain⟨ig,hs,fg⟩:=hS
 obtain⟨lv,Qs,Qq,kH,rfl,Qr,Jv,Ju⟩:=hs
 obtain⟨iO,ht,eX⟩:=id hT
 obtain⟨eR,AK,AI,dS,rfl,AJ,sG,sE⟩:=ht
 have I9:=fg.len
 have EP:=eX.len
 have O3:∀(i:Nat) (p:da),([]:List da)[i]?=some p→cD ⟨ro,[]⟩ 0 (0+i*6) 6 (mN p):=fun _ _ h=>oB h
 refine zE<|zD 2<|jn fun b3=>zD 9<|jl (b:=b) (off:=0) (m:=4) (vs:=[.slice lv ig.length kH,.slice eR iO.length dS,.slice fa 0 fc,vH]) 2 ⟨_,_,_,.inl gb,rfl⟩<|zD 4<|dw [1,0,1,0,0] [] (fun(zz:Nat)=>[(3,zP b3),(11,.slice fa 0 fc),(12,zI 0),(13,zI 0)]) (fun zz=>[.b b3 (.cells ⟨[.slice t.a t.n t.c,.slice t.ea t.en t.ec,(.map (some t.r))]⟩ 202 (0,0))]) (fun zz=>True) (fun zz=>zz) 0 trivial [0] ?_
 rintro z hI K1 bG rest
 refine zD 12<|zX (.bool true) ⟨rfl,rfl⟩
theorem ajA:dG zT 143 [zP b] ro [] (fun r Y=>∃b1,r= .func (.func 201) ⟨[]⟩ ⟨[zP b1]⟩∧Y=[(b1,.cells ⟨[zP b]⟩ 195 (0,0))]):=by
 refine zE<|zD 2<|jn fun b1=>zD 8<|zR (.func (.func 201) ⟨[]⟩ ⟨[zP b1]⟩) [] [0] [(b1,.cells ⟨[zP b]⟩ 195 (0,0))] ⟨_,rfl,rfl⟩
theorem ajC{S:List (List ah)}{L:List TrD}{Inv:Nat→Cells→Prop}{t:Xd}{x:TrD}{LL:Cells}(Jf:J5 ro b S ways)(hC:ac4 ro bl b b1 b2 b3)(hn:t.n=ways.length)(hx:L[k]?=some x) (hR:TrO (bI S) LL t x) (hB:Inv k B) (hy:YOK zT bl ro L.length (apr (bI S) L) Inv Stop):dG zT 202 [.agg ⟨[.slice t.a t.n t.c,.slice t.ea t.en t.ec,(.map (some t.r))]⟩,zP b1,zP b2,zP b3] ro (LL++B) (fun r Y=>∃c,r= .bool c∧(c=true→Inv (k+1) Y)∧(c=false→Stop Y)):=by
 have aoX:=Jf
 obtain⟨vS,vT,vH,fa,fc,gb,hS,hT,hHs⟩:=Jf
 have yl:=hS
 obtain⟨ig,hs,fg⟩:=hS
 obtain⟨lv,Qs,Qq,kH,rfl,Qr,Jv,Ju⟩:=hs
 obtain⟨iO,ht,eX⟩:=id hT
 obtain⟨eR,AK,AI,dS,rfl,AJ,sG,sE⟩:=ht
 have I9:=fg.len
 have EP:=eX.len
 have O3:∀(i:Nat) (p:da),([]:List da)[i]?=some p→cD ⟨ro,[]⟩ 0 (0+i*6) 6 (mN p):=fun _ _ h=>oB h
 refine zC [.l LL,.l B]<|zD 2<|jn fun b4=>jd 13 [0]<|jl (b:=b1) (off:=0) (m:=1) (vs:=[zP b]) 0 ⟨_,_,_,.inl hC.t,rfl⟩<|zD 3<|jl (b:=b) (off:=0) (m:=4) (vs:=[.slice lv ig.length kH,.slice eR iO.length dS,.slice fa 0 fc,vH]) 1 ⟨_,_,_,.inl gb,rfl⟩<|zD 3<|zJ 21 ((t.n:Int)=(iO.length:Int)) (fun h1=>?_) fun h1=>?_
 ·
  refine zD 3<|jl (b:=b1) (off:=0) (m:=1) (vs:=[zP b]) 0 ⟨_,_,_,.inl hC.t,rfl⟩<|jd 1 [0]<|jp (vs:=[zP b,.agg ⟨[.slice t.a t.n t.c,.slice t.ea t.en t.ec,(.map (some t.r))]⟩]) [] [] (fun aG hs hZ=>aH5 (t:=t) (aoX.up hs))<|zD 2<|jl (b:=b2) (off:=0) (m:=1) (vs:=[(.func (.yield bl) #[] #[])]) 0 ⟨_,_,_,.inl hC.y,rfl⟩<|jd 1 [0]<|jyc [1,2] (hy k [.agg ⟨[.slice t.a t.n t.c,.slice t.ea t.en t.ec,(.map (some t.r))]⟩] LL B ro (List.getElem?_eq_some_iff.1 hx).1 ⟨x,t,hx,rfl,hR⟩ hB (Sub.refl _)) (Sub.refl _) ?_
  intro v29 Y29 aQb
  obtain⟨c29,rfl,aSS,aSG⟩:=yb aQb
  refine zD 4<|zR (.bool c29) [] [0] Y29 ⟨_,rfl,aSS,aSG⟩
 exfalso;omega
theorem aUz{S:List (List ah)}{l:List aN}{Inv:Nat→Cells→Prop}{ea:Option Addr}{r0:Nat}{es0:Array MapEntry}{F0:List (an×Value)}(Jf:J5 ro b S [l])(hO:eS S)(hW:yx [l])(hC:ac4 ro bl b b1 b2 b3)(hE:∀aD,Knows aD LE→cW aD (.slice ea en ec) S)(hE0:tF oV F0 es0 ck0)(hk0:F0.map (·.1)=bI S)(hM0:MV Z F0 id)(hB:Inv 0 B)(hy:YOK zT bl ro (db S [l]).length (apr (bI S) (db S [l])) Inv Stop):dG zT 202 [.agg ⟨[zS,.slice ea en ec,(.map (some r0))]⟩,zP b1,zP b2,zP b3] ro (LE++(r0,.map es0 ck0)::(Z++B)) (fun r Y=>∃c,r= .bool c∧(c=true→Inv l.length Y)∧(c=false→Stop Y)):=by
 have aoX:=Jf
 obtain⟨vS,vT,vH,fa,fc,gb,hS,hT,hHs⟩:=Jf
 have yl:=hS
 obtain⟨ig,hs,fg⟩:=hS
 obtain⟨w1,w2,rfl⟩:=p8 (fg.len.trans hO.two)
 obtain⟨lv,Qs,Qq,kH,rfl,Qr,Jv,Ju⟩:=hs
 obtain⟨iO,ht,eX⟩:=id hT
 obtain⟨eR,AK,AI,dS,rfl,AJ,sG,sE⟩:=ht
 have EP:=eX.len
 have O3:∀(i:Nat) (p:da),([]:List da)[i]?=some p→cD ⟨ro,[]⟩ 0 (0+i*6) 6 (mN p):=fun _ _ h=>oB h
 refine zC [.l LE,.b r0 (.map es0 ck0),.l Z,.l B]<|zD 2<|jn fun b4=>zD 1<|jf [1,2,3] (LE++((r0,.map es0 ck0)::Z)) (fun yN bZ iL=>?_)
 have HV:=hE _ (Knows.left iL)
 have Jg:Tp yN r0 (bI S) id es0 ck0 F0:=⟨Knows.right iL _ (.head _),hE0,hk0,hM0 _ (Knows.tail (Knows.right iL))⟩
 refine jd 12 [0]<|jl (b:=b1) (off:=0) (m:=1) (vs:=[zP b]) 0 ⟨_,_,_,.inl (bZ _ _ hC.t),rfl⟩<|zD 3<|jl (b:=b) (off:=0) (m:=4) (vs:=[.slice lv 2 kH,.slice eR iO.length dS,.slice fa 0 fc,vH]) 1 ⟨_,_,_,.inl (bZ _ _ gb),rfl⟩<|zD 3<|zJ 21 (0=(iO.length:Int)) (fun h4=>?_) fun h4=>?_
 ·
  exfalso;simp at EP;omega
 refine zD 4 ?_
 have Zj:iO.length=1:=EP
 refine zD 1<|jl (b:=b1) (off:=0) (m:=1) (vs:=[zP b]) 0 ⟨_,_,_,.inl (bZ _ _ hC.t),rfl⟩<|zD 3<|jl (b:=b) (off:=0) (m:=4) (vs:=[.slice lv 2 kH,.slice eR iO.length dS,.slice fa 0 fc,vH]) 1 ⟨_,_,_,.inl (bZ _ _ gb),rfl⟩<|zD 1 ?_
 obtain⟨x37,abQ⟩:=zG iO 0
 refine gX dS 1 sG abQ<|zD 1 ?_
 obtain⟨l39,aGb,h39⟩:=eX.get abQ
 obtain aRF:=hW.ok _ (zL aGb)
 obtain aiq:l39=l:=Option.some.inj (aGb.symm.trans rfl)
 obtain⟨aN9,bbH,bbF,aDj,rfl,bbG,aN8,aN7⟩:=h39
 refine jl 0 ((sE _ _ abQ).ext (ux bZ))<|zD 4<|dw [1,1,1,0,1,0,0] [] (fun(zz:Nat×Cells)=>[(1,zP b1),(3,zP b3),(4,zP b4),(39,.slice aN9 l39.length aDj),(40,zI (l39.length:Int)),(41,zI (zz.1:Int))]) (fun zz=>[.l zz.2,.b b4 (.cells ⟨[zS,.slice ea en ec,(.map (some r0))]⟩ 202 (0,0))]) (fun zz=>zz.1≤l39.length∧Inv zz.1 zz.2) (fun zz=>l39.length-zz.1) (⟨0,B⟩) ⟨by dsimp only;omega,hB⟩ [1,0] ?_
 rintro⟨i,B⟩ hI K1 bG rest
 dsimp only at hI
 refine zD 5<|zJ 42 ((i:Int) <(l39.length:Int)) (fun h5=>?_) fun h5=>?_
 ·
  refine zD 7 ?_
  obtain⟨x44,JJ⟩:=zG l39 i
  refine gX aDj 7 aN8 JJ<|jl 0 ((aN7 _ _ JJ).ext (ux bZ))<|jn fun b8=>jd 4 [0] ?_
  have hco:=aRF.2 _ (zL JJ)
  refine jd 4 [2,0]<|jc (vs:=[.agg ⟨[.slice ea en ec]⟩,.agg ⟨[zI x44.k,zI x44.st,zI x44.ot,zI x44.fn,zI x44.fl,zI x44.tn,zI x44.tl]⟩]) [] (aUD (c:=x44) hco (HV.up (Sub.refl _)) hO) ?_
  rintro _ _ ⟨r9,F9,LM9,Z9,rfl,rfl,hm9,hk9,hM9⟩
  obtain⟨es9,ck9,rfl,hE9⟩:=hm9
  refine jg 0 [.b r9 (.map es9 ck9),.l Z9]<|zD 5<|jf [0,1] ((r9,.map es9 ck9)::Z9) (fun ro8 y6 hk7=>?_)
  have hP2:Tp ro8 r9 (bI S) (yW S x44) es9 ck9 F9:=⟨hk7 _ (.head _),hE9,hk9,hM9 _ (Knows.tail hk7)⟩
  refine zD 11<|jl (b:=b3) (off:=0) (m:=1) (vs:=[.func (.func 202) ⟨[]⟩ ⟨[zP b1,zP b2,zP b3]⟩]) 0 ⟨_,_,_,.inl (y6 _ _ (bZ _ _ hC.g)),rfl⟩<|jd 4 [2]<|jl (b:=b1) (off:=0) (m:=1) (vs:=[zP b]) 0 ⟨_,_,_,.inl (y6 _ _ (bZ _ _ hC.t)),rfl⟩<|zD 4<|jl (b:=b) (off:=0) (m:=4) (vs:=[.slice lv 2 kH,.slice eR iO.length dS,.slice fa 0 fc,vH]) 0 ⟨_,_,_,.inl (y6 _ _ (bZ _ _ gb)),rfl⟩<|jd 4 [2]<|I5 [3,5] ⟨fun z2 t3 pK=>?_,fun z5 t6 N1=>?_,trivial⟩
  ·
   refine jc (vs:=[zS]) [] (aIc (bB.nil _ _ _ _ _) (by simp)) ?_
   rintro v58 L58 ahW
   obtain⟨T8,T4,HK⟩:=ahW.form
   subst HK
   refine eG pK [1,2,3]<|aS 5 fun aao aaC hL8=>jn fun b60=>eG hL8 (zN 1 4)<|aS 6 fun TX Ub Sn=>iK (sz:=1) (ps:=([]:List Int)) (qs:=[(i:Int)]) (enc:=cy) (w:= .slice (some ⟨b60,0,none⟩) 1 1) [1] [0] [(b60,.cells ⟨([(i:Int)].map cy).flatten⟩ 3 (0,0))] (ahW) (fun s _ hZ=>bV [(i:Int)] (hZ _ (.head _)) (by intro p hp;rfl)) (fun p _=>ai rfl) (by simp only[List.length_cons,List.length_nil];omega) (fun v61 L61 Ht=>?_)
   obtain⟨ad5,adY,axy⟩:=Ht.form
   subst axy
   refine gx Sn [[4],[],[],[]]<|aS 15 fun FI Ge wC=>jc (vs:=[(.map (some r9)),zI 2]) [] (ajH (hP2.up (Sub.refl _)) (uu hO) (fun x hx=>af9 hco (RR hO (by rw[←hk9];exact List.mem_map_of_mem (f:=(·.1)) hx)))) ?_
   rintro _ L70 ⟨a70,n70,c70,rfl⟩
   refine eG wC (zN 1 5)<|aS 19 fun FH Gd zk=>jc (vs:=[(.map (some r0)),(.map (some r9))]) [] (asb (Jg.up y6) (hP2.up (Sub.refl _))) ?_
   rintro _ _ ⟨r74,F74,aVV,Z74,rfl,rfl,awY,axj,aye⟩
   obtain⟨Ok,Oy,rfl,ayt⟩:=awY
   refine jg 0 [.b r74 (.map Ok Oy),.l Z74]<|eG zk (zN 2 6)<|zD 1<|aS 21 fun Pv PX C7=>jc (vs:=[.agg ⟨[(.slice ad5 ((([]:List Int)++[(i:Int)])).length adY),.slice a70 n70 c70,(.map (some r74))]⟩,zP b1,zP b2,zP b3]) [3,0,1,6] ((show dG _ _ _ _ (L61++(r74,.map Ok Oy)::(Z74++B)) _ from by have:=ajC (t:=⟨ad5,((([]:List Int)++[(i:Int)])).length,adY,a70,n70,c70,r74⟩) (LL:=L61++(r74,.map Ok Oy)::Z74) (aoX.up (bZ.trans y6)) (hC.up (bZ.trans y6)) rfl (J9 (by rw[←aiq];exact JJ)) (fun aD hk=>⟨by simpa using Ht.jF (Knows.left hk),Ok,Oy,F74,(Knows.right hk) _ (.head _),ayt,axj,fun y hy=>aye aD (Knows.tail (Knows.right hk)) y hy⟩) hI.2 (hy.up (bZ.trans y6));rwa[List.append_assoc,List.cons_append] at this)) ?_
   rintro _ Y76 ⟨c76,rfl,axS,axN⟩
   refine gx C7 [[],[]]<|zD 2<|js 77 (!c76) (fun N8=>?_) (fun N8=>?_)
   ·
    try simp only[zB] at N8
    refine zD 6<|aK q0.a.a (.bool false) [] [0] Y76 (bZ.trans y6) ⟨_,_,rfl,rfl,_,rfl,nofun,fun _=>axN (by simp_all)⟩
   try simp only[zB] at N8
   refine zD 3<|ja ((i:Int)+1) (by omega)<|zD 2<|bF bG (⟨i+1,Y76⟩) ⟨by dsimp only;omega,axS (by simp_all)⟩ (by dsimp only;omega) [0,4] y6
  refine jn fun b60=>eG N1 [1,2,3]<|aS 3 fun aqj aqE N4=>jc (vs:=[zS]) [] (aIc (bB.nil _ _ _ _ _) (by simp)) ?_
  rintro v58 L58 ahW
  obtain⟨T8,T4,HK⟩:=ahW.form
  subst HK
  refine eG N4 (zN 1 4)<|aS 6 fun aAU aBT aym=>iK (sz:=1) (ps:=([]:List Int)) (qs:=[(i:Int)]) (enc:=cy) (w:= .slice (some ⟨b60,0,none⟩) 1 1) [0] [1] [(b60,.cells ⟨([(i:Int)].map cy).flatten⟩ 3 (0,0))] (ahW) (fun s _ hZ=>bV [(i:Int)] (hZ _ (.head _)) (by intro p hp;rfl)) (fun p _=>ai rfl) (by simp only[List.length_cons,List.length_nil];omega) (fun v61 L61 Ht=>?_)
  obtain⟨ad5,adY,axy⟩:=Ht.form
  subst axy
  refine gx aym [[4],[],[],[]]<|aS 15 fun aAT aBS Wd=>jc (vs:=[(.map (some r9)),zI 2]) [] (ajH (hP2.up (Sub.refl _)) (uu hO) (fun x hx=>af9 hco (RR hO (by rw[←hk9];exact List.mem_map_of_mem (f:=(·.1)) hx)))) ?_
  rintro _ L70 ⟨a70,n70,c70,rfl⟩
  refine eG Wd (zN 1 5)<|aS 19 fun aqi aqD EU=>jc (vs:=[(.map (some r0)),(.map (some r9))]) [] (asb (Jg.up y6) (hP2.up (Sub.refl _))) ?_
  rintro _ _ ⟨r74,F74,aVV,Z74,rfl,rfl,awY,axj,aye⟩
  obtain⟨Ok,Oy,rfl,ayt⟩:=awY
  refine jg 0 [.b r74 (.map Ok Oy),.l Z74]<|eG EU (zN 2 6)<|zD 1<|aS 21 fun Xm Xw C6=>jc (vs:=[.agg ⟨[(.slice ad5 ((([]:List Int)++[(i:Int)])).length adY),.slice a70 n70 c70,(.map (some r74))]⟩,zP b1,zP b2,zP b3]) [3,0,1,6] ((show dG _ _ _ _ (L61++(r74,.map Ok Oy)::(Z74++B)) _ from by have:=ajC (t:=⟨ad5,((([]:List Int)++[(i:Int)])).length,adY,a70,n70,c70,r74⟩) (LL:=L61++(r74,.map Ok Oy)::Z74) (aoX.up (bZ.trans y6)) (hC.up (bZ.trans y6)) rfl (J9 (by rw[←aiq];exact JJ)) (fun aD hk=>⟨by simpa using Ht.jF (Knows.left hk),Ok,Oy,F74,(Knows.right hk) _ (.head _),ayt,axj,fun y hy=>aye aD (Knows.tail (Knows.right hk)) y hy⟩) hI.2 (hy.up (bZ.trans y6));rwa[List.append_assoc,List.cons_append] at this)) ?_
  rintro _ Y76 ⟨c76,rfl,axS,axN⟩
  refine gx C6 [[],[]]<|zD 2<|js 77 (!c76) (fun LW=>?_) (fun LW=>?_)
  ·
   try simp only[zB] at LW
   refine zD 6<|aK q0.a.a (.bool false) [] [0] Y76 (bZ.trans y6) ⟨_,_,rfl,rfl,_,rfl,nofun,fun _=>axN (by simp_all)⟩
  try simp only[zB] at LW
  refine zD 3<|ja ((i:Int)+1) (by omega)<|zD 2<|bF bG (⟨i+1,Y76⟩) ⟨by dsimp only;omega,axS (by simp_all)⟩ (by dsimp only;omega) [0,4] y6
 refine zD 7<|aK q0.a (.bool true) [] [0] B bZ ⟨_,_,rfl,rfl,_,rfl,(fun _=>by have:=hI.2;rwa[show i=l.length by rw[←aiq];omega] at this),nofun⟩
theorem aH4{S:List (List ah)}{Inv:Nat→Cells→Prop}{ea:Option Addr}{r0:Nat}{es0:Array MapEntry}{F0:List (an×Value)}(Jf:J5 ro b S ways)(hO:eS S)(hW:yx ways)(hC:ac4 ro bl b b1 b2 b3)(hE:∀aD,Knows aD LE→cW aD (.slice ea en ec) S)(hE0:tF oV F0 es0 ck0)(hk0:F0.map (·.1)=bI S)(hM0:MV Z F0 id)(hB:Inv 0 B)(hy:YOK zT bl ro (db S ways).length (apr (bI S) (db S ways)) Inv Stop):
 dG zT 202 [.agg ⟨[zS,.slice ea en ec,.map (some r0)]⟩,zP b1,zP b2,zP b3] ro (LE++(r0,.map es0 ck0)::(Z++B)) (fun r Y=>∃c,r= .bool c∧(c=true→Inv (db S ways).length Y)∧(c=false→Stop Y)):=by
 match ways,hW with
 | [],_=>
  have:=ajC (t:=⟨none,0,0,ea,en,ec,r0⟩) (x:=⟨[],id⟩) (k:=0) (LL:=LE++(r0,.map es0 ck0)::Z) Jf hC rfl rfl (fun aD hk=>⟨bB.nil _ _ _ _ _,es0,ck0,F0,(Knows.right hk) _ (.head _),hE0,fun h hh=>by rw[hk0];exact hh,hM0 _ (Knows.tail (Knows.right hk))⟩) hB hy
  rwa[List.append_assoc,List.cons_append] at this
 | [l],hW=>
  refine(aUz Jf hO hW hC hE hE0 hk0 hM0 hB hy).mono fun _ _ ⟨c,h1,h2,h3⟩=>⟨c,h1,fun h=>?_,h3⟩
  rw[show (db S [l]).length=l.length by simp[db]]
  exact h2 h
 |_::_::_,hW=>exact absurd hW.one (by simp)
theorem aci{S:List (List ah)}(g1:ro b1=some (.cells ⟨[zP b]⟩ 195 (0,0)))(Jf:J5 ro b S ways)(hO:eS S)(hW:yx ways):ItX zT 201 [] [zP b1] ro [] (db S ways).length (apr (bI S) (db S ways)) (fun Z=>Z=[]):=by
 intro bl aG Inv Stop hs hy B hB
 replace g1:=hs _ _ g1
 replace Jf:=Jf.up hs
 have aTw:=Jf
 obtain⟨vS,vT,vH,fa,fc,gb,hS,hT,hHs⟩:=Jf
 have yl:=hS
 obtain⟨ig,oO,fg⟩:=hS
 obtain⟨amU,bbr,bbn,amT,rfl,bbp,bbq,bbo⟩:=oO
 obtain⟨iO,ht,eX⟩:=id hT
 obtain⟨eR,AK,AI,dS,rfl,AJ,sG,sE⟩:=ht
 have O3:∀(i:Nat) (p:da),([]:List da)[i]?=some p→cD ⟨aG,[]⟩ 0 (0+i*6) 6 (mN p):=fun _ _ h=>oB h
 refine zC [.l B]<|zD 2<|jn fun b2=>zD 3<|jn fun b3=>jd 5 [0]<|jf [1,0] ((b2,.cells ⟨[(.func (.yield bl) #[] #[])]⟩ 307 (0,0))::[(b3,.cells ⟨[.func (.func 202) ⟨[]⟩ ⟨[zP b1,zP b2,zP b3]⟩]⟩ 307 (0,0))]) fun yN bZ iL=>zD 2<|jl (b:=b3) (off:=0) (m:=1) (vs:=[.func (.func 202) ⟨[]⟩ ⟨[zP b1,zP b2,zP b3]⟩]) 0 ⟨_,_,_,.inl (iL _ (.tail _ (.head _))),rfl⟩<|jl (b:=b1) (off:=0) (m:=1) (vs:=[zP b]) 0 ⟨_,_,_,.inl (bZ _ _ g1),rfl⟩<|zD 3<|jl (b:=b) (off:=0) (m:=4) (vs:=[.slice amU ig.length amT,.slice eR iO.length dS,.slice fa 0 fc,vH]) 0 ⟨_,_,_,.inl (bZ _ _ gb),rfl⟩<|jl (b:=b1) (off:=0) (m:=1) (vs:=[zP b]) 0 ⟨_,_,_,.inl (bZ _ _ g1),rfl⟩<|zD 3<|jl (b:=b) (off:=0) (m:=4) (vs:=[.slice amU ig.length amT,.slice eR iO.length dS,.slice fa 0 fc,vH]) 0 ⟨_,_,_,.inl (bZ _ _ gb),rfl⟩<|aS 6 fun BX B6 An=>jc (vs:=[.agg ⟨[.slice amU ig.length amT]⟩]) [] (aph (yl.up bZ) hO) ?_
 rintro _ L11 ⟨a11,n11,c11,rfl,aT5⟩
 refine eG An [1]<|aS 12 fun As AA zi=>jc (vs:=[.agg ⟨[.slice amU ig.length amT]⟩]) [] (Ma (yl.up bZ) hO) ?_
 rintro _ _ ⟨r17,F17,bgD,Z17,rfl,rfl,aw1,ab1,aTG⟩
 obtain⟨aUP,aU2,rfl,aT4⟩:=aw1
 refine jg 0 [.b r17 (.map aUP aU2),.l Z17]<|eG zi [2,3]<|zD 1<|aS 14 fun oP oR nK=>jc (vs:=[.agg ⟨[zS,.slice a11 n11 c11,(.map (some r17))]⟩,zP b1,zP b2,zP b3]) [2,0,1,3] (aH4 (aTw.up bZ) hO hW ⟨(bZ _ _ g1),iL _ (.head _),iL _ (.tail _ (.head _))⟩ aT5 aT4 ab1 aTG hB (YOK.up hy bZ)) ?_
 rintro _ Y19 ⟨c19,rfl,aSV,aSJ⟩
 refine gx nK [[],[]]<|zD 1<|aK q0.a (.tuple ⟨[]⟩) [] [0] Y19 bZ ⟨_,_,rfl,rfl,[],Y19,rfl,rfl,by cases c19 with|true=>exact .inl (aSV rfl)|false=>exact .inr (aSJ rfl)⟩
theorem Gb{S:List (List ah)}(hW:yx ways):(db S ways).length≤3:=by
 match ways,hW with
 | [],_=>simp[db]
 |l::_,hW=>
  have:=(hW.ok l (by simp)).1.2
  simpa [db] using this
theorem ajG{fa:Option Addr}{S:List (List ah)}(hS:cW ro vS S)(hO:eS S)(hT:nU ro vT ways)(hW:yx ways):FnG zT 108 [.agg ⟨[vS,vT,.slice fa 0 fc]⟩] ro [] (fun r aG Y=>∃b vl ts Lt Z,r= .tuple ⟨[zP b,vl,zI 0]⟩∧J5 aG b S ways∧Y=Lt++Z∧aw vl 3 202 akf ts Lt∧ts.length=(db S ways).length∧∀aD,Knows aD Z→de (TrR (bI S) aD) ts (db S ways)):=by
 have yl:=hS
 obtain⟨ig,hs,fg⟩:=hS
 obtain⟨lv,Qs,Qq,kH,rfl,Qr,Jv,Ju⟩:=hs
 obtain⟨iO,ht,eX⟩:=id hT
 obtain⟨eR,AK,AI,dS,rfl,AJ,sG,sE⟩:=ht
 have I9:=fg.len
 have EP:=eX.len
 have JL:=hO.two
 have A9:=hW.one
 have O3:∀(i:Nat) (p:da),([]:List da)[i]?=some p→cD ⟨ro,[]⟩ 0 (0+i*6) 6 (mN p):=fun _ _ h=>oB h
 refine aEE (hm:=ar) [] [] aW<|zD 2<|jn fun b1=>jd 7 [0]<|jc (vs:=[.agg ⟨[.slice lv ig.length kH,.slice eR iO.length dS,.slice fa 0 fc]⟩]) [] (ayL yl hO hT hW) ?_
 rintro _ _ ⟨OJ,aBu,aJp,rfl,rfl,awP⟩
 refine jg 0 [.b OJ (.cells ⟨[.slice lv ig.length kH,.slice eR iO.length dS,.slice fa 0 fc,aBu]⟩ 233 (0,0)),.l aJp]<|zD 5<|jf [0,1] ((OJ,.cells ⟨[.slice lv ig.length kH,.slice eR iO.length dS,.slice fa 0 fc,aBu]⟩ 233 (0,0))::aJp) (fun yN bZ iL=>?_)
 have Jf:J5 yN OJ S ways:=⟨_,_,_,_,_,iL _ (.head _),yl.up bZ,hT.up bZ,awP.jF (Knows.tail iL)⟩
 refine zD 10 ?_
 have hLn:(db S ways).length≤3:=Gb hW
 refine zD 1<|jn fun b7=>zD 5<|jc (vs:=[zP OJ]) [] (ajA) ?_
 rintro _ _ ⟨are,rfl,rfl⟩
 refine jg 0 [.b are (.cells ⟨[zP OJ]⟩ 195 (0,0))]<|jf [0] [(are,.cells ⟨[zP OJ]⟩ 195 (0,0))] fun ro6 kA Zl=>zD 2<|nI<|nI<|jrf [] (aci (Zl _ (.head _)) (Jf.up kA) hO hW) (by rintro _ _ _ _ ⟨_,_,_,rfl,_⟩;rfl) (fun(zz:Value×Cells×(List Xd)×Cells)=>[.b b7 (.cells ⟨[zz.1]⟩ 196 (0,0)),.l zz.2.1,.l zz.2.2.2]) (fun kk=>(fun(zz:Value×Cells×(List Xd)×Cells)=>aw zz.1 3 202 akf zz.2.2.1 zz.2.1∧zz.2.2.1.length=kk∧(∀aD,Knows aD zz.2.2.2→de (TrR (bI S) aD) zz.2.2.1 ((db S ways).take kk))∧(db S ways).length≤3)) (fun jump=>(fun(zz:Value×Cells×(List Xd)×Cells)=>False)) (⟨zS,[],[],[]⟩) ⟨aw.nil _ _ _,rfl,fun _ _=> .nil,hLn⟩ [2,0,1] ?_ ?_ ?_
 ·
  rintro bl7 bd7 kk7 vs7 LL7 ⟨vl,Lt,ts,Z⟩ ro7 hk7 aSi hI sj
  obtain⟨x7,t7,hx7,rfl,hR7⟩:=aSi
  dsimp only at hI
  have bY:=(List.getElem?_eq_some_iff.1 hx7).1
  refine zD 1<|jn fun b8=>jd 2 [0]<|aEI<|jd 4 [2,0]<|jn fun OH=>iK (sz:=3) (ps:=ts) (qs:=[(⟨t7.a,t7.n,t7.c,t7.ea,t7.en,t7.ec,t7.r⟩:Xd)]) (enc:=akf) (w:= .slice (some ⟨OH,0,none⟩) 1 1) [4] [0] [(OH,.cells ⟨([(⟨t7.a,t7.n,t7.c,t7.ea,t7.en,t7.ec,t7.r⟩:Xd)].map akf).flatten⟩ 202 (0,0))] (hI.1) (fun s _ hZ=>bV [(⟨t7.a,t7.n,t7.c,t7.ea,t7.en,t7.ec,t7.r⟩:Xd)] (hZ _ (.head _)) (by intro p hp;rfl)) (fun p _=>ai rfl) (by simp only[List.length_cons,List.length_nil];omega) (fun v23 L23 y9=>?_)
  obtain⟨aMw,aMc,axF⟩:=y9.form
  subst axF
  refine jd 2 [4]<|jyn qy0 (Sub.refl _) ⟨(.slice aMw ((ts++[(⟨t7.a,t7.n,t7.c,t7.ea,t7.en,t7.ec,t7.r⟩:Xd)])).length aMc),L23,(ts++[(⟨t7.a,t7.n,t7.c,t7.ea,t7.en,t7.ec,t7.r⟩:Xd)]),LL7++Z⟩ ⟨y9,by simp only[zM];omega,fun aD hk=>p5 (hI.2.2.1 aD (Knows.right hk)) hx7 (hR7 aD (Knows.left hk)),hI.2.2.2⟩ [3,4,0,6,5]
 ·
  rintro bd7 ⟨vl,Lt,ts,Z⟩ Z7 hI hZ7
  dsimp only at hI
  subst hZ7
  refine jd 9 [2]<|aPH qm0.a.a.m (.tuple ⟨[zP OJ,vl,zI 0]⟩) [0] [] [2,3] (Lt++Z) (Sub.refl _) ⟨_,_,_,rfl,rfl,(bZ.trans kA),OJ,vl,ts,Lt,Z,rfl,Jf.up kA,rfl,hI.1,hI.2.1,by have:=hI.2.2.1;rwa[List.take_of_length_le (Nat.le_refl _)] at this⟩
 rintro bd7 ⟨vl,Lt,ts,Z⟩ Z7 jump hS hZ7
 exact hS.elim
def wv(t:Xd):Value:= .slice t.a t.n t.c
theorem de.maps{β γ δ:Type}{R:α→β→Prop}{T:γ→δ→Prop}{f:α→γ}{g:β→δ}(h:∀a b,R a b→T (f a) (g b)):∀ {l:List α} {m:List β},de R l m→de T (l.map f) (m.map g)
 | [],[],.nil=> .nil
 |_::_,_::_,.cons h1 h2=> .cons (h _ _ h1) (de.maps h h2)
theorem abf{y:an}{l:List an}(h:y∈l):bQ (pq y.h y.n y.l) l 0≥0:=by
 have key:∀(l:List an) (k:Nat),y∈l→bQ (pq y.h y.n y.l) l k≥0:=by
  intro l
  induction l with
  |nil=>intro k h;cases h
  |cons x l ih=>
   intro k h
   simp only[bQ]
   cases hx:pq y.h y.n y.l x with
   |true=>simp
   |false=>
    simp only[cond_false]
    rcases List.mem_cons.1 h with rfl|h
    ·simp[pq] at hx
    exact ih _ h
 exact key l 0 h
theorem apf{fa:Option Addr}{S:List (List ah)}(hS:cW ro vS S)(hO:eS S)(hT:nU ro vT ways)(hW:yx ways):dG zT 55 [.agg ⟨[vS,vT,.slice fa 0 fc]⟩] ro [] (fun r Y=>∃a n c,r= .tuple ⟨[.slice a n c,zI 0]⟩∧n=((db S ways).map (·.ways)).length∧∀lq,Knows lq Y→ak0 lq (.slice a n c) ((db S ways).map (·.ways))):=by
 have yl:=hS
 obtain⟨ig,hs,fg⟩:=hS
 obtain⟨lv,Qs,Qq,kH,rfl,Qr,Jv,Ju⟩:=hs
 obtain⟨iO,ht,eX⟩:=id hT
 obtain⟨eR,AK,AI,dS,rfl,AJ,sG,sE⟩:=ht
 have I9:=fg.len
 have EP:=eX.len
 have JL:=hO.two
 have A9:=hW.one
 have O3:∀(i:Nat) (p:da),([]:List da)[i]?=some p→cD ⟨ro,[]⟩ 0 (0+i*6) 6 (mN p):=fun _ _ h=>oB h
 have hLn:=Gb (S:=S) hW
 refine zE<|zD 2<|jn fun b1=>jd 6 [0]<|jcG (vs:=[.agg ⟨[.slice lv ig.length kH,.slice eR iO.length dS,.slice fa 0 fc]⟩]) [] (ajG yl hO hT hW) ?_
 rintro _ aG _ bZ ⟨wX,vl,ts,Lt,Z,rfl,Jf,rfl,hL,htl,hA⟩
 obtain⟨uS,uT,uH,ua,uc,gb,_,_,hh⟩:=Jf
 obtain⟨dJ,u5,u4,dv,rfl,xq,qX,qW⟩:=hh
 obtain⟨aMy,aMe,aSx⟩:=hL.form
 subst aSx
 refine jg 0 [.l Lt,.l Z]<|zD 28<|nI<|dw [1,1,1,1,0,1,0,0] [] (fun(zz:Nat×Value×Cells)=>[(2,zS),(3,zI 0),(7,zz.2.1),(19,(.slice aMy ts.length aMe)),(20,zI (ts.length:Int)),(21,zI (zz.1:Int))]) (fun zz=>[.l zz.2.2,.l Lt,.l Z,.b b1 (.cells ⟨[.slice lv ig.length kH,.slice eR iO.length dS,.slice fa 0 fc]⟩ 29 (0,0))]) (fun zz=>zz.1≤ts.length∧aw zz.2.1 1 22 fw ((ts.take zz.1).map wv) zz.2.2) (fun zz=>ts.length-zz.1) (⟨0,zS,[]⟩) ⟨by dsimp only;omega,aw.nil _ _ _⟩ (zN 0 4) ?_
 rintro⟨k,vO,LO⟩ hI K1 bG rest
 dsimp only at hI
 refine zD 5<|zJ 22 ((k:Int) <(ts.length:Int)) (fun h2=>?_) fun h2=>?_
 ·
  refine zD 6 ?_
  obtain⟨vo,tj⟩:=zG ts k
  refine Af 3 hL tj fun b23 aTk=>ki 0 [1] Lt (fun s _ hZ=>bh hL aTk hZ tj)<|jn fun b9=>jd 6 [0,0]<|jn fun b28=>iK (sz:=1) (ps:=((ts.take k).map wv)) (qs:=[(.slice vo.a vo.n vo.c:Value)]) (enc:=fw) (w:= .slice (some ⟨b28,0,none⟩) 1 1) [2] [0] [(b28,.cells ⟨([(.slice vo.a vo.n vo.c:Value)].map fw).flatten⟩ 22 (0,0))] (hI.2) (fun s _ hZ=>bV [(.slice vo.a vo.n vo.c:Value)] (hZ _ (.head _)) (by intro p hp;rfl)) (by intro p hp;rw[List.mem_singleton] at hp;subst hp;exact ai rfl) (by simp only[List.length_map,List.length_take,List.length_cons,List.length_nil];omega) (fun v29 L29 HB=>?_)
  obtain⟨ad8,ad1,air⟩:=HB.form
  subst air
  refine zD 3<|ja ((k:Int)+1) (by omega)<|zD 2<|bF bG (⟨k+1,(.slice ad8 ((((ts.take k).map wv)++[(.slice vo.a vo.n vo.c:Value)])).length ad1),L29⟩) ⟨by dsimp only;omega,by rw[dP tj,List.map_append];exact HB⟩ (by dsimp only;omega) [0,3,4,5] (Sub.refl _)
 refine zD 3 ?_
 obtain⟨va3,vc3,he3⟩:=hI.2.form
 subst he3
 refine zD 6<|aK q0.a (.tuple ⟨[(.slice va3 (((ts.take k).map wv)).length vc3),zI 0]⟩) [] [0,2] (LO++Z) bZ ⟨_,_,rfl,rfl,_,_,_,rfl,by simp only[List.length_map,List.length_take];omega,fun lq hk=>⟨_,hI.2.jF (Knows.left hk),by rw[List.take_of_length_le (by omega)];exact(hA lq (Knows.right hk)).maps fun _ _ h=>h.1⟩⟩
theorem ayC{fa:Option Addr}{S:List (List ah)}{y:an}{x:TrD}(hS:cW ro vS S)(hO:eS S)(hT:nU ro vT ways)(hW:yx ways)(hy:y∈bI S)(hLx:db S ways=[x]):dG zT 89 [.agg ⟨[vS,vT,.slice fa 0 fc]⟩,.agg ⟨[zI y.h,zI y.n,zI y.l]⟩] ro [] (fun r Y=>∃a n c,r= .tuple ⟨[.slice a n c,zI 0]⟩∧∀lq,Knows lq Y→bB lq (.slice a n c) 3 cL [x.g y]):=by
 have yl:=hS
 obtain⟨ig,hs,fg⟩:=hS
 obtain⟨lv,Qs,Qq,kH,rfl,Qr,Jv,Ju⟩:=hs
 obtain⟨iO,ht,eX⟩:=id hT
 obtain⟨eR,AK,AI,dS,rfl,AJ,sG,sE⟩:=ht
 have I9:=fg.len
 have EP:=eX.len
 have JL:=hO.two
 have A9:=hW.one
 have O3:∀(i:Nat) (p:da),([]:List da)[i]?=some p→cD ⟨ro,[]⟩ 0 (0+i*6) 6 (mN p):=fun _ _ h=>oB h
 have hhl:=uu hO
 have hph:=abf hy
 have An:(db S ways).length=1:=by rw[hLx];rfl
 refine zE<|zD 2<|jn fun b2=>jn fun b3=>jd 6 [1]<|jcG (vs:=[.agg ⟨[.slice lv ig.length kH,.slice eR iO.length dS,.slice fa 0 fc]⟩]) [] (ajG yl hO hT hW) ?_
 rintro _ aG _ bZ ⟨b14,vl,ts,Lt,Z,rfl,Jf,rfl,hL,htl,hA⟩
 obtain⟨uS,uT,uH,ua,uc,gb,_,_,hh⟩:=Jf
 obtain⟨dJ,u5,u4,dv,rfl,xq,qX,qW⟩:=hh
 obtain⟨B3,Ax,tt⟩:=hL.form
 subst tt
 refine jg 0 [.l Lt,.l Z]<|zD 22<|jl (b:=b14) (off:=0) (m:=4) (vs:=[uS,uT,.slice ua 0 uc,.slice dJ ((bI S).length) dv]) 3 ⟨_,_,_,.inl gb,rfl⟩<|jd 1 [2]<|jp (vs:=[.slice dJ ((bI S).length) dv,.agg ⟨[zI y.h,zI y.n,zI y.l]⟩]) [] [] (fun aG hs hZ=>Ls ((show bB _ _ _ _ _ from ⟨dJ,u5,u4,dv,rfl,xq,qX,qW⟩).up hs) (by omega))<|zD 2<|js 27 (!(decide (bQ (pq y.h y.n y.l) (bI S) 0≥0))) (fun h2=>?_) (fun h2=>?_)
 ·
  exfalso;simp_all
 refine zD 9<|zJ 30 ((ts.length:Int)=0) (fun h3=>?_) fun h3=>?_
 ·
  exfalso;omega
 refine zD 5<|jf [0,1] (Lt++Z) (fun ro6 kA Zl=>?_)
 have hLs:=hL.jF (Knows.left Zl)
 have hAs:=hA _ (Knows.right Zl)
 obtain⟨kZ,I1,I0,kY,TE,O4,GD,GC⟩:=hLs
 simp only[Value.slice.injEq] at TE
 obtain⟨rfl,_,rfl⟩:=TE
 refine zD 9<|nI<|dw [1,1,1,1,1,1,0,1,0,0] [] (fun(zz:Nat×Value×Cells)=>[(3,zP b3),(4,zS),(5,zI 0),(9,zz.2.1),(31,.slice B3 ts.length Ax),(32,zI (ts.length:Int)),(33,zI (zz.1:Int))]) (fun zz=>[.l zz.2.2,.b b3 (.cells ⟨[zI y.h,zI y.n,zI y.l]⟩ 132 (0,0)),.b b2 (.cells ⟨[.slice lv ig.length kH,.slice eR iO.length dS,.slice fa 0 fc]⟩ 29 (0,0))]) (fun zz=>zz.1≤ts.length∧aw zz.2.1 3 132 cL ([x.g y].take zz.1) zz.2.2) (fun zz=>ts.length-zz.1) (⟨0,zS,[]⟩) ⟨by dsimp only;omega,aw.nil _ _ _⟩ [0,1,2] ?_
 rintro⟨k,vO,LO⟩ hI K1 bG rest
 dsimp only at hI
 refine zD 5<|zJ 34 ((k:Int) <(ts.length:Int)) (fun h7=>?_) fun h7=>?_
 ·
  refine zD 6 ?_
  obtain⟨x35,Vo⟩:=zG ts k
  refine gX Ax 3 GD Vo<|jl 0 (GC _ _ Vo)<|jn fun OJ=>jd 2 [0] ?_
  obtain⟨q35,aFo,_,bfr,bfu,F35,aRG,aT3,aRS,aQx⟩:=hAs.get Vo
  obtain⟨hqe,hk0⟩:=GS (by rw[hLx] at aFo;exact aFo)
  replace hqe:=hqe.symm
  subst hqe
  refine jd 5 [0,2]<|jlu (kv:=oV) (F:=F35) (r:=x35.r) (K:=132) y (zS) false [] [] DW (fun s he _=>⟨_,_,he _ _ (.inl aRG),aT3⟩) ?_
  obtain⟨w41,aQn,aRE⟩:=YA (k:=y) (F:=F35) (aRS y hy)
  have hww:bB _ w41 3 cL [x.g y]:=aQx _ aRE
  obtain⟨UI,qwb,qwo,M1,rfl,qwk,qwh,qwl⟩:=hww
  refine jw 41 (.slice UI ([x.g y].length) M1) (show Rj (zS) false y F35=_ from by simp only[Rj,aQn];rfl) ?_
  refine iK (sz:=3) (ps:=([x.g y].take k)) (qs:=[x.g y]) (enc:=cL) (w:= .slice UI ([x.g y].length) M1) [1] [] [] (hI.2) (fun s he _=>⟨UI,qwb,qwo,M1,rfl,qwh,fun i p hp=>(qwl i p hp).ext he⟩) (fun p _=>ai rfl) (by simp only[List.length_take,List.length_cons,List.length_nil];omega) (fun v42 L42 ahK=>?_)
  obtain⟨aMq,aL6,aSs⟩:=ahK.form
  subst aSs
  refine zD 3<|ja ((k:Int)+1) (by omega)<|zD 2<|bF bG (⟨k+1,(.slice aMq ((([x.g y].take k)++[x.g y])).length aL6),L42⟩) ⟨by dsimp only;omega,by have:=ahK;rw[hk0] at this ⊢;exact this⟩ (by dsimp only;omega) [0,2,3] (Sub.refl _)
 refine zD 5<|jcL (vs:=[vO]) [] [0] LO (fun aG hs hZ=>ZC (hI.2.jF hZ) (by simp only[List.length_take,List.length_cons,List.length_nil];omega)) ?_
 rintro v45 L45 aFE
 obtain⟨atl,atb,axB⟩:=aFE.form
 subst axB
 refine zD 4<|aK q0.a.a (.tuple ⟨[(.slice atl (([x.g y].take k)).length atb),zI 0]⟩) [] [0] L45 (bZ.trans kA) ⟨_,_,rfl,rfl,_,_,_,rfl,fun lq hk=>by have:=aFE.jF hk;have e: [x.g y].take k=[x.g y]:=List.take_of_length_le (by simp only[List.length_cons,List.length_nil];omega);simpa only[e] using this⟩
def UQ(S:List (List ah))(ways:List (List aN))(w:List Int)(x:aB):List an:=match ways,w with
 |l::_,i::_=>(match l[i.toNat]? with
  |some c=>[yW S c ⟨x.st,x.no,0⟩]
  |none=>[])
 |_,_=>[⟨x.st,x.no,0⟩]
def WW(K:aC):List (List Int):=(db K.str K.ways).map (·.ways)
theorem Xc{l:List aN}{w:List Int}(h:K.ways=[l])(hw:w∈WW K):∃(i:Nat) (c:aN),l[i]?=some c∧w=[(i:Int)]:=by
 simp only[WW,h,db,List.map_map,List.mem_map,List.mem_range,Function.comp,atz] at hw
 obtain⟨i,hi,rfl⟩:=hw
 exact⟨i,l[i],List.getElem?_eq_getElem hi,rfl⟩
theorem jz.wp(h:jz K):yx K.ways:=⟨h.ways.1,fun l hl=>⟨⟨(h.ways.2 l hl).1.1,by have:=(h.ways.2 l hl).1.2;omega⟩,(h.ways.2 l hl).2⟩⟩
theorem Yf(h:jz K):K.ways=[]∨∃l,K.ways=[l]:=by
 have:=h.ways.1
 match hw:K.ways,this with
 | [],_=>exact .inl rfl
 | [l],_=>exact .inr ⟨l,rfl⟩
theorem adQ(h:jz K):Xb K (WW K):=by
 rcases Yf h with e| ⟨l,e⟩
 ·exact⟨by simp[WW,e,db],fun w hw=>by simp[WW,e,db] at hw;simp[hw,e],fun w hw k l n hl=>by simp[e] at hl⟩
 have hl:=(h.ways.2 l (by simp[e])).1
 refine⟨by simp[WW,e,db];omega,fun w hw=>?_,fun w hw k l' n hk hn=>?_⟩
 ·obtain⟨i,c,_,rfl⟩:=Xc e hw;simp[e]
 obtain⟨i,c,hi,rfl⟩:=Xc e hw
 rw[e] at hk
 obtain⟨rfl,rfl⟩:=GS hk
 obtain⟨rfl,_⟩:=GS hn
 have:=(List.getElem?_eq_some_iff.1 hi).1
 omega
theorem aee(hK:fx ro l K)(hO:jz K):qM ro l (WW K):=by
 obtain⟨vS,vT,vc,vh,vr,vb,va,vf,fa,fc,hv,rfl,hS,hT,_⟩:=hK
 intro aG hs
 exact apf (hS.up hs) hO.oT (hT.up hs) hO.wp
theorem abn{S:List (List ah)}{x:aB}(h:apY S hd x):(⟨x.st,x.no,0⟩:an)∈bI S:=by
 obtain⟨l,h1,h2⟩:=h.2
 have:=HE h1 h2
 simp only[mD] at this
 rwa[show ((x.st.toNat:Nat):Int)=x.st by have:=h.1.2.2.1;omega] at this
theorem apw{l:List aN}{c:aN}(h:l[i]?=some c):(l.take ((i:Int).toNat+1)).drop (i:Int).toNat=[c]:=by
 rw[Int.toNat_natCast,dP h,List.drop_append_of_le_length (by have:=(List.getElem?_eq_some_iff.1 h).1;rw[List.length_take];omega),List.drop_eq_nil_of_le (by rw[List.length_take];omega)];rfl
theorem amc(hK:fx ro l K)(hO:jz K):xQ ro l K (WW K) (UQ K.str K.ways):=by
 obtain⟨vS,vT,vc,vh,vr,vb,va,vf,fa,fc,hv,rfl,hS,hT,_⟩:=hK
 intro w hw x hx
 have hy:=abn (hO.before.2 x hx)
 have fin:∀(t:TrD),yx (Bv K.ways w)→db K.str (Bv K.ways w)=[t]→UQ K.str K.ways w x=[t.g ⟨x.st,x.no,0⟩]→(UQ K.str K.ways w x).length≤1000∧∀aG,Sub ro aG→∀v vS' vT' vU r,[vS,vT,.slice fa 0 fc,vc,vh,vr,vb,va,zI K.gone,zI K.new,zI K.af,vf]=vS'::vT'::vU::r→nU aG v (Bv K.ways w)→
  dG zT 89 [.agg ⟨[vS',v,vU]⟩,.agg ⟨[zI x.st,zI x.no,zI 0]⟩] aG [] (fun r Y=>∃a n c,r= .tuple ⟨[.slice a n c,zI 0]⟩∧∀lq,Knows lq Y→bB lq (.slice a n c) 3 cL (UQ K.str K.ways w x)):=by
  intro t h1 h2 h3
  rw[h3]
  refine⟨by simp,fun aG hs v vS' vT' vU r he hv=>?_⟩
  simp only[List.cons.injEq] at he
  obtain⟨rfl,_,rfl,_⟩:=he
  exact ayC (hS.up hs) hO.oT hv h1 hy h2
 rcases Yf hO with e| ⟨l,e⟩
 ·refine fin ⟨[],id⟩ ?_ ?_ ?_
  ·rw[e];exact⟨by simp[Bv],by simp[Bv]⟩
  ·rw[e];simp[Bv,db]
  rw[e];rfl
 obtain⟨i,c,hi,rfl⟩:=Xc e hw
 have hc:Bv K.ways [(i:Int)]=[[c]]:=by rw[e];simp only[Bv,List.zipWith_cons_cons,List.zipWith_nil_right,apw hi]
 refine fin ⟨[0],yW K.str c⟩ ?_ ?_ ?_
 ·rw[hc]
  refine⟨by simp,fun l' hl=>?_⟩
  rw[List.mem_singleton] at hl;subst hl
  exact⟨by simp,fun c' tv=>by rw[List.mem_singleton] at tv;subst tv;exact(hO.ways.2 l (by simp[e])).2 _ (zL hi)⟩
 ·rw[hc];rfl
 rw[e];simp only[UQ,Int.toNat_natCast,hi]
def cH(K:aC):List bD:=(WW K).map (kG K (UQ K.str K.ways))
theorem ox(h:jz K):(cH K).length≤2:=by
 rw[cH,List.length_map];exact(adQ h).n.2
theorem zy(hK:fx ro l K)(hO:jz K)(hV:ee K):gN ro l K (cH K):=
 apO hK hO hV (adQ hO) (aee hK hO) (amc hK hO)
def cm(K:aC):Nat:=(cU K (aP K) (cz K.gone K.new K.af) (cH K)).length
theorem H2:∀(l:List Int) (a:Int),l.foldl min a≤a∧∀x∈l,l.foldl min a≤x
 | [],a=>⟨Int.le_refl _,fun _ h=>(by cases h)⟩
 |y::l,a=>by
  obtain⟨h1,h2⟩:=H2 l (min a y)
  refine⟨by simp only[List.foldl_cons];omega,fun x hx=>?_⟩
  rcases List.mem_cons.1 hx with rfl|hx
  ·simp only[List.foldl_cons];omega
  exact h2 x hx
theorem Ns{l:List Int}(h:x∈l):u6 l≤x:=by
 cases l with
 |nil=>cases h
 |cons y l=>
  rcases List.mem_cons.1 h with rfl|h
  ·exact(H2 l _).1
  exact(H2 l _).2 x h
theorem an2(hK:fx ro l K)(hO:jz K)(hV:ee K):Ae zT 16 [.agg ⟨l⟩] ro [] (fun r Y=>∃zs m e,zs.Perm (cU K (aP K) (fun _=>true) (cH K))∧Y=[]∧r= .tuple ⟨[zI m,zI e]⟩∧((zs=[]∧m=0∧e=9)∨(zs≠[]∧m=u6 (zs.map Gi)∧e=0))):=
 fun fr=>Fn.mono (avQ hK hV (ox hO) (zy hK hO hV) fr) fun en s' ⟨v,Y,h1,h2,zs,h3,h4,h5⟩=>⟨v,Y,h1,h2,by
  rcases h5 with ⟨h5,h6⟩| ⟨h5,h6⟩
  ·exact⟨zs,0,9,h3,h4,h6,.inl ⟨h5,rfl,rfl⟩⟩
  exact⟨zs,_,0,h3,h4,h6,.inr ⟨h5,rfl,rfl⟩⟩⟩
theorem Hf(hK:fx ro l K)(hO:jz K)(hV:ee K):Ae zT 10 [.agg ⟨l⟩] ro [] (fun r Y=>r= .tuple ⟨[zI (cm K:Int),zI 0]⟩∧Y=[]):=agK hK hV (ox hO) (zy hK hO hV)
def D9:List Int→List Int→Bool
 | [],[]=>true
 |x::l,y::m=>decide (x=y)&&D9 l m
 |_,_=>false
theorem aj8:∀ {l m:List Int},¬l.length=m.length→D9 l m=false
 | [],[],h=>absurd rfl h
 | [],_::_,_=>rfl
 |_::_,[],_=>rfl
 |x::l,y::m,h=>by rw[D9,aj8 (l:=l) (m:=m) (by simpa using h),Bool.and_false]
theorem aj9(hx:xs[k]?=some x) (hy:ys[k]?=some y):D9 (xs.drop k) (ys.drop k)=(decide (x=y)&&D9 (xs.drop (k+1)) (ys.drop (k+1))):=by rw[eE hx,eE hy];rfl
theorem apn(hx:¬k <xs.length)(h:xs.length=ys.length):D9 (xs.drop k) (ys.drop k)=true:=by rw[eA hx,eA (by omega)];rfl
def EY:List (List Int)→List (List Int)→Bool
 | [],[]=>true
 |x::l,y::m=>D9 x y&&EY l m
 |_,_=>false
theorem ZK:∀ {l m:List (List Int)},¬l.length=m.length→EY l m=false
 | [],[],h=>absurd rfl h
 | [],_::_,_=>rfl
 |_::_,[],_=>rfl
 |x::l,y::m,h=>by rw[EY,ZK (l:=l) (m:=m) (by simpa using h),Bool.and_false]
theorem ZL{xs ys:List (List Int)}{x y:List Int}(hx:xs[k]?=some x) (hy:ys[k]?=some y):EY (xs.drop k) (ys.drop k)=(D9 x y&&EY (xs.drop (k+1)) (ys.drop (k+1))):=by rw[eE hx,eE hy];rfl
theorem aj7{xs ys:List (List Int)}(hx:¬k <xs.length)(h:xs.length=ys.length):EY (xs.drop k) (ys.drop k)=true:=by rw[eA hx,eA (by omega)];rfl
def yt:List Int→List Int→Int
 | [],[]=>0
 | [],_::_=> -1
 |_::_,[]=>1
 |x::xs,y::ys=>if q5 x y=0 then yt xs ys else q5 x y
theorem S5(hx:xs[k]?=some x) (hy:ys[k]?=some y):yt (xs.drop k) (ys.drop k)=if q5 x y=0 then yt (xs.drop (k+1)) (ys.drop (k+1)) else q5 x y:=by rw[eE hx,eE hy];rfl
theorem acF(hx:xs[k]?=some x) (hy:¬k <ys.length):yt (xs.drop k) (ys.drop k)=1:=by rw[eE hx,eA hy];rfl
theorem Mn(hx:¬k <xs.length):yt (xs.drop k) (ys.drop k)=if k <ys.length then-1 else 0:=by
 rw[eA hx]
 split
 ·rename_i h
  rw[List.drop_eq_getElem_cons h];rfl
 rename_i h
 rw[eA h];rfl
def fB(f:Int):Nat→List Int
 |0=>[]
 |k+1=>fB f k++(bif hasB f k then [(k:Int)] else [])
theorem anK(h:hasB f (k:Int)=true):fB f (k+1)=fB f k++[(k:Int)]:=by rw[fB,h];rfl
theorem anL(h:hasB f (k:Int)=false):fB f (k+1)=fB f k:=by rw[fB,h];exact List.append_nil _
theorem Ln(f:Int)(n:Nat):(fB f n).length≤n:=by
 induction n with
 |zero=>exact Nat.le_refl _
 |succ n ih=>rw[fB,List.length_append];cases hasB f (n:Int)<;>simp<;>omega
def yQ(f:Int):Int:=([0,1,1,2,1,2,2,3,1,2,2,3,2,3,3,4]:List Int).getD f.toNat 0
theorem X6(h:0≤f∧f <16):0≤yQ f∧yQ f≤8:=by
 obtain⟨n,rfl⟩:=Int.eq_ofNat_of_zero_le h.1
 have h2:n <16:=by omega
 revert h2
 exact(by decide:∀n:Nat,n <16→0≤yQ (n:Int)∧yQ (n:Int)≤8) n
def kU(x y:Int):Int:=if yQ x-yQ y=0 then yt (fB x 4) (fB y 4) else yQ x-yQ y
theorem akg{v w:Value}(hv:bB ro v 1 cy xs)(hw:bB ro w 1 cy ys)(hx:xs.length≤1000)(hy:ys.length≤1000):du zT 13 [v,w] ro (.bool (D9 xs ys)):=by
 obtain⟨Qo,qvb,qvo,Eu,rfl,qvk,UK,UJ⟩:=hv
 obtain⟨UI,qwb,qwo,M1,rfl,qwk,qwh,qwl⟩:=hw
 refine zE<|zD 13<|js 10 (!decide ((xs.length:Int)=(ys.length:Int))) (fun h1=>?_) (fun h1=>?_)
 ·
  replace h1:=of_decide_eq_false (by simpa using h1)
  refine zD 6<|zX (.bool false) ⟨by rw[aj8 (by omega)],rfl⟩
 replace h1:=of_decide_eq_true (by simpa using h1)
 refine zD 8<|dw [1,1,0,1,0,0] [] (fun(zz:Nat)=>[(0,.slice Qo xs.length Eu),(1,.slice UI ys.length M1),(5,zI (zz:Int))]) (fun zz=>[]) (fun zz=>zz≤xs.length∧D9 xs ys=D9 (xs.drop zz) (ys.drop zz)) (fun zz=>xs.length-zz) 0 ⟨by omega,rfl⟩ [] ?_
 rintro k hI K1 bG rest
 refine zD 8<|zJ 14 ((k:Int) <(xs.length:Int)) (fun h2=>?_) fun h2=>?_
 ·
  refine zD 8 ?_
  obtain⟨BY,sb⟩:=zG xs k
  refine gX Eu 1 UK sb<|jl 0 (UJ _ _ sb)<|zD 2 ?_
  obtain⟨vo,tj⟩:=zG ys k
  refine gX M1 1 qwh tj<|jl 0 (qwl _ _ tj)<|zD 2<|js 25 (!decide (BY=vo)) (fun h3=>?_) (fun h3=>?_)
  ·
   replace h3:=of_decide_eq_false (by simpa using h3)
   refine zD 6<|zX (.bool false) ⟨by rw[hI.2,aj9 sb tj,decide_eq_false (by omega),Bool.false_and],rfl⟩
  replace h3:=of_decide_eq_true (by simpa using h3)
  refine zD 4<|ja ((k:Int)+1) (by omega)<|zD 2<|bF bG (k+1) ⟨by omega,by rw[hI.2,aj9 sb tj,decide_eq_true (by omega),Bool.true_and]⟩ (by omega) [] (Sub.refl _)
 refine zD 7<|zX (.bool true) ⟨by rw[hI.2,apn (by omega) (by omega)],rfl⟩
theorem aP1{v w:Value}(hv:bB ro v 1 cy xs)(hw:bB ro w 1 cy ys)(hx:xs.length≤1000)(hy:ys.length≤1000):du zT 96 [v,w] ro (zI (yt xs ys)):=by
 obtain⟨Qo,qvb,qvo,Eu,rfl,qvk,UK,UJ⟩:=hv
 obtain⟨UI,qwb,qwo,M1,rfl,qwk,qwh,qwl⟩:=hw
 refine zE<|zD 12<|dw [1,0,1,0,0] [] (fun(zz:Nat)=>[(0,.slice Qo xs.length Eu),(1,.slice UI ys.length M1),(9,.slice Qo xs.length Eu),(10,zI (xs.length:Int)),(11,zI (zz:Int))]) (fun zz=>[]) (fun zz=>(zz≤xs.length∧zz≤ys.length)∧yt xs ys=yt (xs.drop zz) (ys.drop zz)) (fun zz=>xs.length-zz) 0 ⟨by omega,rfl⟩ [] ?_
 rintro k hI K1 bG rest
 refine zD 5<|zJ 12 ((k:Int) <(xs.length:Int)) (fun h1=>?_) fun h1=>?_
 ·
  refine zD 7 ?_
  obtain⟨fI,eH⟩:=zG xs k
  refine gX Eu 1 UK eH<|jl 0 (UJ _ _ eH)<|zD 11<|zJ 19 ((k:Int)≥(ys.length:Int)) (fun h2=>?_) fun h2=>?_
  ·
   refine zD 6<|zX (zI 1) ⟨by rw[hI.2,acF eH (by omega)],rfl⟩
  refine zD 6 ?_
  obtain⟨sD,uk⟩:=zG ys k
  refine gX M1 1 qwh uk<|jl 0 (qwl _ _ uk)<|zD 6<|jp (vs:=[zI fI,zI sD]) [] [] (fun aG hs hZ=>ayJ)<|zD 7<|js 28 (!decide ((q5 fI sD)=0)) (fun h3=>?_) (fun h3=>?_)
  ·
   replace h3:=of_decide_eq_false (by simpa using h3)
   refine zD 7<|zX (zI (q5 fI sD)) ⟨by rw[hI.2,S5 eH uk,if_neg (by omega)],rfl⟩
  replace h3:=of_decide_eq_true (by simpa using h3)
  refine zD 3<|ja ((k:Int)+1) (by omega)<|zD 2<|bF bG (k+1) ⟨by omega,by rw[hI.2,S5 eH uk,if_pos (by omega)]⟩ (by omega) [] (Sub.refl _)
 refine zD 11<|zJ 35 ((xs.length:Int) <(ys.length:Int)) (fun h4=>?_) fun h4=>?_
 ·
  refine zD 6<|zX (zI (-1)) ⟨by rw[hI.2,Mn (by omega),if_pos (by omega)],rfl⟩
 refine zD 7<|zX (zI 0) ⟨by rw[hI.2,Mn (by omega),if_neg (by omega)],rfl⟩
theorem SQ:dG zT 43 [.int .u8 f] ro [] (fun r Y=>∃L,aw r 1 3 cy (fB f 4) L∧Y=L):=by
 refine zE<|zD 14<|nI<|dw [1,1,0,1,0,0] [] (fun(zz:Nat×Value×Cells)=>[(0,.int .u8 f),(2,zS),(3,zz.2.1),(5,zI (zz.1:Int))]) (fun zz=>[.l zz.2.2]) (fun zz=>zz.1≤4∧aw zz.2.1 1 3 cy (fB f zz.1) zz.2.2) (fun zz=>4-zz.1) (⟨0,zS,[]⟩) ⟨by dsimp only;omega,aw.nil _ _ _⟩ [0] ?_
 rintro⟨k,v,L⟩ hI K1 bG rest
 dsimp only at hI
 have hll:=Ln f k
 refine zD 5<|zJ 6 ((k:Int) <4) (fun h1=>?_) fun h1=>?_
 ·
  refine zD 13<|jp (vs:=[.int .u8 f,zI (k:Int)]) [] [] (fun aG hs hZ=>(avS (by omega)))<|zD 1<|js 10 (hasB f (k:Int)) (fun h2=>?_) (fun h2=>?_)
  ·
   refine zD 4<|jn fun vz=>iK (sz:=1) (ps:=(fB f k)) (qs:=[(k:Int)]) (enc:=cy) (w:= .slice (some ⟨vz,0,none⟩) 1 1) [1] [0] [(vz,.cells ⟨([(k:Int)].map cy).flatten⟩ 3 (0,0))] (hI.2) (fun s _ hZ=>bV [(k:Int)] (hZ _ (.head _)) (by intro p hp;rfl)) (fun p _=>ai rfl) (by simp<;>omega) (fun v14 L14 oZ=>?_)
   obtain⟨B3,Ax,tt⟩:=oZ.form
   subst tt
   refine zD 3<|ja ((k:Int)+1) (by omega)<|zD 2<|bF bG (⟨k+1,(.slice B3 (((fB f k)++[(k:Int)])).length Ax),L14⟩) ⟨by dsimp only;omega,by dsimp only;rw[anK (by assumption)];exact oZ⟩ (by dsimp only;omega) [0] (Sub.refl _)
  refine zD 3<|ja ((k:Int)+1) (by omega)<|zD 2<|bF bG (⟨k+1,v,L⟩) ⟨by dsimp only;omega,by dsimp only;rw[anL (by assumption)];exact hI.2⟩ (by dsimp only;omega) [0] (Sub.refl _)
 refine zD 8<|zR (v) [] [0] L ⟨_,(by rw[←show k=4 by omega];exact hI.2),rfl⟩
theorem avM:du zT 95 [.int .u8 0] ro (zI 0):=by
 refine zE<|zD 12<|zX (zI 0) ⟨rfl,rfl⟩
theorem avL:du zT 95 [.int .u8 1] ro (zI 1):=by
 refine zE<|zD 12<|zX (zI 1) ⟨rfl,rfl⟩
theorem avK:du zT 95 [.int .u8 2] ro (zI 1):=by
 refine zE<|zD 12<|zX (zI 1) ⟨rfl,rfl⟩
theorem avJ:du zT 95 [.int .u8 3] ro (zI 2):=by
 refine zE<|zD 12<|zX (zI 2) ⟨rfl,rfl⟩
theorem avI:du zT 95 [.int .u8 4] ro (zI 1):=by
 refine zE<|zD 12<|zX (zI 1) ⟨rfl,rfl⟩
theorem avH:du zT 95 [.int .u8 5] ro (zI 2):=by
 refine zE<|zD 12<|zX (zI 2) ⟨rfl,rfl⟩
theorem avG:du zT 95 [.int .u8 6] ro (zI 2):=by
 refine zE<|zD 12<|zX (zI 2) ⟨rfl,rfl⟩
theorem avF:du zT 95 [.int .u8 7] ro (zI 3):=by
 refine zE<|zD 12<|zX (zI 3) ⟨rfl,rfl⟩
theorem avE:du zT 95 [.int .u8 8] ro (zI 1):=by
 refine zE<|zD 12<|zX (zI 1) ⟨rfl,rfl⟩
theorem avD:du zT 95 [.int .u8 9] ro (zI 2):=by
 refine zE<|zD 12<|zX (zI 2) ⟨rfl,rfl⟩
theorem anY:du zT 95 [.int .u8 10] ro (zI 2):=by
 refine zE<|zD 12<|zX (zI 2) ⟨rfl,rfl⟩
theorem anX:du zT 95 [.int .u8 11] ro (zI 3):=by
 refine zE<|zD 12<|zX (zI 3) ⟨rfl,rfl⟩
theorem anW:du zT 95 [.int .u8 12] ro (zI 2):=by
 refine zE<|zD 12<|zX (zI 2) ⟨rfl,rfl⟩
theorem anV:du zT 95 [.int .u8 13] ro (zI 3):=by
 refine zE<|zD 12<|zX (zI 3) ⟨rfl,rfl⟩
theorem anU:du zT 95 [.int .u8 14] ro (zI 3):=by
 refine zE<|zD 12<|zX (zI 3) ⟨rfl,rfl⟩
theorem anT:du zT 95 [.int .u8 15] ro (zI 4):=by
 refine zE<|zD 12<|zX (zI 4) ⟨rfl,rfl⟩
theorem aro(h:0≤f∧f <16):du zT 95 [.int .u8 f] ro (zI (yQ f)):=by
 obtain rfl|rfl|rfl|rfl|rfl|rfl|rfl|rfl|rfl|rfl|rfl|rfl|rfl|rfl|rfl|rfl:=(by omega:f=0∨f=1∨f=2∨f=3∨f=4∨f=5∨f=6∨f=7∨f=8∨f=9∨f=10∨f=11∨f=12∨f=13∨f=14∨f=15)
 ·exact avM
 ·exact avL
 ·exact avK
 ·exact avJ
 ·exact avI
 ·exact avH
 ·exact avG
 ·exact avF
 ·exact avE
 ·exact avD
 ·exact anY
 ·exact anX
 ·exact anW
 ·exact anV
 ·exact anU
 exact anT
def LL(ro:Nat→Option Obj)(v:Value)(W:List (List Int)):Prop:=∃ws,bB ro v 1 fw ws∧de (fun w l=>bB ro w 1 cy l) ws W
theorem ayW{v w:Value}{ws us:List Value}{W U:List (List Int)}(hv:bB ro v 1 fw ws)(hw:bB ro w 1 fw us)(ha:de (fun w l=>bB ro w 1 cy l) ws W)(hb:de (fun w l=>bB ro w 1 cy l) us U)(hx:W.length≤1000)(hy:U.length≤1000)(hW:∀l∈W,l.length≤1000)(hU:∀l∈U,l.length≤1000):du zT 21 [v,w] ro (.bool (EY W U)):=by
 obtain⟨Qo,qvb,qvo,Eu,rfl,qvk,UK,UJ⟩:=hv
 obtain⟨UI,qwb,qwo,M1,rfl,qwk,qwh,qwl⟩:=hw
 have hla:=ha.len
 have hlb:=hb.len
 refine zE<|zD 13<|js 10 (!decide ((ws.length:Int)=(us.length:Int))) (fun h1=>?_) (fun h1=>?_)
 ·
  replace h1:=of_decide_eq_false (by simpa using h1)
  refine zD 6<|zX (.bool false) ⟨by rw[ZK (by omega)],rfl⟩
 replace h1:=of_decide_eq_true (by simpa using h1)
 refine zD 8<|dw [1,1,0,1,0,0] [] (fun(zz:Nat)=>[(0,.slice Qo ws.length Eu),(1,.slice UI us.length M1),(5,zI (zz:Int))]) (fun zz=>[]) (fun zz=>zz≤W.length∧EY W U=EY (W.drop zz) (U.drop zz)) (fun zz=>W.length-zz) 0 ⟨by omega,rfl⟩ [] ?_
 rintro k hI K1 bG rest
 refine zD 8<|zJ 14 ((k:Int) <(ws.length:Int)) (fun h2=>?_) fun h2=>?_
 ·
  refine zD 8 ?_
  obtain⟨BY,sb⟩:=zG ws k
  refine gX Eu 1 UK sb ?_
  obtain⟨l20,aw9,h20⟩:=ha.get sb
  obtain aw0:=hW _ (zL aw9)
  obtain⟨aDy,aOp,aOl,aDx,rfl,aOn,aOo,aOm⟩:=h20
  refine jl 0 (UJ _ _ sb)<|zD 2 ?_
  obtain⟨vo,tj⟩:=zG us k
  refine gX M1 1 qwh tj ?_
  obtain⟨Va,VF,h24⟩:=hb.get tj
  obtain aFZ:=hU _ (zL VF)
  obtain⟨auM,aDr,aDp,afi,rfl,aDq,am2,am1⟩:=h24
  refine jl 0 (qwl _ _ tj)<|jp (vs:=[.slice aDy l20.length aDx,.slice auM Va.length afi]) [] [] (fun aG hs hZ=>akg ((show bB _ _ _ _ _ from ⟨aDy,aOp,aOl,aDx,rfl,aOn,aOo,aOm⟩).up hs) ((show bB _ _ _ _ _ from ⟨auM,aDr,aDp,afi,rfl,aDq,am2,am1⟩).up hs) aw0 aFZ)<|zD 2<|js 26 (!(D9 l20 Va)) (fun h3=>?_) (fun h3=>?_)
  ·
   try simp only[zB] at h3
   refine zD 6<|zX (.bool false) ⟨by rw[hI.2,ZL aw9 VF];simp_all,rfl⟩
  try simp only[zB] at h3
  refine zD 4<|ja ((k:Int)+1) (by omega)<|zD 2<|bF bG (k+1) ⟨by omega,by rw[hI.2,ZL aw9 VF];simp_all⟩ (by omega) [] (Sub.refl _)
 refine zD 7<|zX (.bool true) ⟨by rw[hI.2,aj7 (by omega) (by omega)],rfl⟩
theorem Rl:(fB f 4).length≤1000:=Nat.le_trans (Ln f 4) (by decide)
def EH:Nat→List Int→List Int
 |0,ys=>ys
 |j+1,ys=>if kU (ys.getD (j+1) 0) (ys.getD j 0) <0 then EH j ((ys.set (j+1) (ys.getD j 0)).set j (ys.getD (j+1) 0)) else ys
def Gp:Nat→Nat→List Int→List Int
 |0,_,ys=>ys
 |n+1,i,ys=>Gp n (i+1) (EH i ys)
def AE(xs:List Int):List Int:=Gp (xs.length-1) 1 xs
theorem abH(h:¬j>0):EH j.toNat ys=ys:=by rw[show j.toNat=0 by omega];rfl
theorem Sz(h:ys[i]?=some x):ys.getD i 0=x:=by rw[List.getD_eq_getElem?_getD,h];rfl
theorem abI(hj:j>0)(hx:ys[j.toNat]?=some x) (hy:ys[(j-1).toNat]?=some y) (h:¬kU x y <0):EH j.toNat ys=ys:=by
 have e:j.toNat=(j-1).toNat+1:=by omega
 rw[e] at hx ⊢
 rw[EH,Sz hx,Sz hy,if_neg h]
theorem YR{x' y':Int}(hj:j>0)(hx:ys[j.toNat]?=some x) (hy:ys[(j-1).toNat]?=some y) (k7:ys[j.toNat]?=some x') (Pb:ys[(j-1).toNat]?=some y') (h:kU x y <0):EH j.toNat ys=EH (j-1).toNat ((ys.set j.toNat y').set (j-1).toNat x'):=by
 rw[hx] at k7;rw[hy] at Pb;cases k7;cases Pb
 have e:j.toNat=(j-1).toNat+1:=by omega
 rw[e] at hx ⊢
 rw[EH,Sz hx,Sz hy,if_pos h]
def BH(v:Value)(xs:List Int)(Y:Cells):Prop:=∃ys,ys=AE xs∧aw v 1 111 uX ys Y
theorem Un{i:Int}(h:AE xs=Gp (n-i.toNat) i.toNat ys)(hi:0≤i∧i <n):AE xs=Gp (n-(i+1).toNat) (i+1).toNat (EH i.toNat ys):=by
 rw[h,show n-i.toNat=(n-(i+1).toNat)+1 by omega,show (i+1).toNat=i.toNat+1 by omega];rfl
theorem aaL{i:Int}(h:AE xs=Gp (n-i.toNat) i.toNat ys)(hi:¬i <n):ys=AE xs:=by
 rw[h,show n-i.toNat=0 by omega];rfl
theorem Rg(hx:0≤x∧x <16)(hy:0≤y∧y <16):du zT 94 [.int .u8 x,.int .u8 y] ro (zI (kU x y)):=by
 have hpx:=X6 hx
 have hpy:=X6 hy
 refine zE<|zD 8<|jp (vs:=[.int .u8 x]) [] [] (fun aG hs hZ=>(aro hx))<|zD 1<|jp (vs:=[.int .u8 y]) [] [] (fun aG hs hZ=>(aro hy))<|ja ((yQ x)-(yQ y)) (by omega)<|zD 7<|js 12 (!decide (((yQ x)-(yQ y))=0)) (fun h1=>?_) (fun h1=>?_)
 ·
  replace h1:=of_decide_eq_false (by simpa using h1)
  refine zD 7<|zX (zI ((yQ x)-(yQ y))) ⟨by rw[kU,if_neg (by omega)],rfl⟩
 replace h1:=of_decide_eq_true (by simpa using h1)
 refine zD 5<|jc (vs:=[.int .u8 x]) [] (SQ) ?_
 rintro v15 L15 ⟨_,ahY,rfl⟩
 refine zD 1<|jc (vs:=[.int .u8 y]) [] (SQ) ?_
 rintro v17 Ts ⟨_,qt,rfl⟩
 refine jp (vs:=[v15,v17]) [1,0] (L15++Ts) (fun aG hs hZ=>aP1 (ahY.jF hZ.left) (qt.jF hZ.right) Rl Rl)<|zD 3<|zX (zI (yt (fB x 4) (fB y 4))) ⟨by rw[kU,if_pos (by omega)],rfl⟩
theorem aPt{v:Value}{L:Cells}(ho:aw v 1 111 uX xs L)(hN:xs.length≤12)(hM:∀m∈xs,0≤m∧m <16):dG zT 184 [v,zI 0,zI (xs.length:Int),.func (.func 94) ⟨[]⟩ ⟨[]⟩] ro L (fun r Y=>BH v xs Y):=by
 refine zC [.l L]<|zD 7<|dw [1,0,0] [] (fun(zz:Int×(List Int)×Cells)=>[(0,v),(1,zI 0),(2,zI (xs.length:Int)),(3,.func (.func 94) ⟨[]⟩ ⟨[]⟩),(8,zI zz.1)]) (fun zz=>[.l zz.2.2]) (fun zz=>(1≤zz.1)∧aw v 1 111 uX zz.2.1 zz.2.2∧zz.2.1.Perm xs∧AE xs=Gp (xs.length-zz.1.toNat) zz.1.toNat zz.2.1) (fun zz=>((xs.length:Int)-zz.1).toNat) (⟨1,xs,L⟩) ⟨by dsimp only;omega,ho,.refl _,rfl⟩ [0] ?_
 rintro⟨i,ys,L⟩ hI K1 bG rest
 dsimp only at hI
 have Rz:=hI.2.2.1.length_eq
 have hym:∀m∈ys,0≤m∧m <16:=fun m hm=>hM m (hI.2.2.1.mem_iff.1 hm)
 refine zD 7<|zJ 14 (i <(xs.length:Int)) (fun h1=>?_) fun h1=>?_
 ·
  refine zD 10<|dw [1,0,0,1,0,0,1,0,0] [K1] (fun(zz:Int×(List Int)×Cells)=>[(0,v),(1,zI 0),(2,zI (xs.length:Int)),(3,.func (.func 94) ⟨[]⟩ ⟨[]⟩),(8,zI i),(9,zI zz.1)]) (fun zz=>[.l zz.2.2]) (fun zz=>(0≤zz.1∧zz.1≤i)∧aw v 1 111 uX zz.2.1 zz.2.2∧zz.2.1.Perm xs∧AE xs=Gp (xs.length-(i+1).toNat) (i+1).toNat (EH zz.1.toNat zz.2.1)) (fun zz=>zz.1.toNat) (⟨i,ys,L⟩) ⟨by dsimp only;omega,hI.2.1,hI.2.2.1,Un hI.2.2.2 (by omega)⟩ [0] ?_
  rintro⟨j,ys,L⟩ hJ K2 jV rest
  dsimp only at hJ
  have Rz:=hJ.2.2.1.length_eq
  have hym:∀m∈ys,0≤m∧m <16:=fun m hm=>hM m (hJ.2.2.1.mem_iff.1 hm)
  refine zD 7<|js 3 (decide (j>0)) (fun h2=>?_) (fun h2=>?_)
  ·
   have k9:=h2
   replace k9:=of_decide_eq_true k9
   refine zD 3 ?_
   obtain⟨xf,ju⟩:=zG ys (j.toNat) (by first|omega| (simp only[List.length_set];omega))
   refine mW j 1 hJ.2.1 ju (Int.toNat_of_nonneg (show 0≤j∧j <((ys).length:Int) from (by first|omega| (simp only[List.length_set];omega))).1).symm (fun nS VZ=>?_)
   refine ki 0 [0] L (fun s _ hZ=>bh hJ.2.1 VZ hZ ju)<|zD 2<|ja (j-1) (by omega) ?_
   obtain⟨kB,fS⟩:=zG ys ((j-1).toNat) (by first|omega| (simp only[List.length_set];omega))
   refine mW (j-1) 1 hJ.2.1 fS (Int.toNat_of_nonneg (show 0≤(j-1)∧(j-1) <((ys).length:Int) from (by first|omega| (simp only[List.length_set];omega))).1).symm (fun b30 NZ=>?_)
   refine ki 0 [0] L (fun s _ hZ=>bh hJ.2.1 NZ hZ fS)<|aS 14 fun oP oR nK=>jp (vs:=[.int .u8 xf,.int .u8 kB]) [] [] (fun aG hs hZ=>(Rg (hym _ (zL ju)) (hym _ (zL fS))))<|eG nK [0]<|zD 3<|zJ 34 ((kU xf kB) <0) (fun h4=>?_) fun h4=>?_
   ·
    refine zD 9<|ja (j-1) (by omega)<|zD 2<|ja (j-1) (by omega) ?_
    obtain⟨sJ,sa⟩:=zG ys ((j-1).toNat) (by first|omega| (simp only[List.length_set];omega))
    refine mW (j-1) 1 hJ.2.1 sa (Int.toNat_of_nonneg (show 0≤(j-1)∧(j-1) <((ys).length:Int) from (by first|omega| (simp only[List.length_set];omega))).1).symm (fun b45 VY=>?_)
    refine ki 0 [0] L (fun s _ hZ=>bh hJ.2.1 VY hZ sa)<|zD 2 ?_
    obtain⟨Em,wy⟩:=zG ys (j.toNat) (by first|omega| (simp only[List.length_set];omega))
    refine mW j 1 hJ.2.1 wy (Int.toNat_of_nonneg (show 0≤j∧j <((ys).length:Int) from (by first|omega| (simp only[List.length_set];omega))).1).symm (fun b49 VX=>?_)
    refine ki 0 [0] L (fun s _ hZ=>bh hJ.2.1 VX hZ wy) ?_
    obtain⟨x51,y4⟩:=zG ys (j.toNat) (by first|omega| (simp only[List.length_set];omega))
    refine mW j 1 hJ.2.1 y4 (Int.toNat_of_nonneg (show 0≤j∧j <((ys).length:Int) from (by first|omega| (simp only[List.length_set];omega))).1).symm (fun b51 VW=>?_)
    refine aS 15 fun qU qV pK=>Fp 0 0 [.int .u8 sJ] sJ hJ.2.1 VW y4 rfl rfl (Nat.le_of_ble_eq_true rfl) fun L6 TJ=>gx pK [] ?_
    obtain⟨x52,th⟩:=zG ((ys.set j.toNat sJ)) ((j-1).toNat) (by first|omega| (simp only[List.length_set];omega))
    refine mW (j-1) 1 TJ th (Int.toNat_of_nonneg (show 0≤(j-1)∧(j-1) <(((ys.set j.toNat sJ)).length:Int) from (by first|omega| (simp only[List.length_set];omega))).1).symm (fun b52 VV=>?_)
    refine aS 17 fun yz yF zh=>Fp 0 0 [.int .u8 Em] Em TJ VV th rfl rfl (Nat.le_of_ble_eq_true rfl) fun L9 NR=>fW zh<|zD 3<|ja (j-1) (by omega)<|zD 2<|bF jV (⟨(j-1),((ys.set j.toNat sJ).set ((j-1).toNat) Em),L9⟩) ⟨by dsimp only;omega,NR,(lY wy sa).trans hJ.2.2.1,by dsimp only;rw[hJ.2.2.2,YR (by omega) ju fS wy sa (by assumption)]⟩ (by dsimp only;omega) [0] (Sub.refl _)
   refine zD 4<|ja (i+1) (by omega)<|zD 2<|bF bG (⟨(i+1),ys,L⟩) ⟨by dsimp only;omega,hJ.2.1,hJ.2.2.1,by dsimp only;rw[hJ.2.2.2,abI (by omega) ju fS (by assumption)]⟩ (by dsimp only;omega) [0] (Sub.refl _)
  have k9:=h2
  replace k9:=of_decide_eq_false k9
  refine zD 18<|ja (i+1) (by omega)<|zD 2<|bF bG (⟨(i+1),ys,L⟩) ⟨by dsimp only;omega,hJ.2.1,hJ.2.2.1,by dsimp only;rw[hJ.2.2.2,abH (by omega)]⟩ (by dsimp only;omega) [0] (Sub.refl _)
 refine zD 2<|zR (.tuple ⟨[]⟩) [] [0] L ⟨ys,aaL hI.2.2.2 (by omega),hI.2.1⟩
theorem apT(h:K.facts.length≤3):IntKind.u8.wrap (aP K+1)=((2^K.facts.length:Nat):Int):=by
 unfold aP
 generalize K.facts.length=n at h
 obtain rfl|rfl|rfl|rfl:n=0∨n=1∨n=2∨n=3:=by omega
 all_goals decide
theorem am5(h:n≤3):2^n≤8:=by
 obtain rfl|rfl|rfl|rfl:n=0∨n=1∨n=2∨n=3:=by omega
 all_goals decide
theorem aqp(h:n≤255):Value.int .u8 (IntKind.u8.wrap (n:Int))= .int .u8 (n:Int):=by
 rw[sL .u8 rfl _ (by omega) (by simp[IntKind.bits];omega)]
def dt(n:Nat):List Int:=AE (cd (2^n))
theorem aa4(h:n≤8):∀m∈cd n,0≤m∧m <16:=fun m hm=>by have:=nD hm;omega
theorem aPr{v:Value}{L:Cells}{I2:Int}(ho:aw v 1 111 uX xs L)(hN:xs.length≤12)(hM:∀m∈xs,0≤m∧m <16):dG zT 133 [v,zI 0,zI (xs.length:Int),zI I2,.func (.func 94) ⟨[]⟩ ⟨[]⟩] ro L (fun r Y=>BH v xs Y):=by
 refine zC [.l L]<|zD 9<|dw [1,1,0,0] [] (fun(zz:Nat)=>[(0,v),(1,zI 0),(2,zI (xs.length:Int)),(3,zI I2),(4,.func (.func 94) ⟨[]⟩ ⟨[]⟩),(10,.bool true),(11,.bool true)]) (fun zz=>[.l L]) (fun zz=>True) (fun zz=>zz) 0 trivial [0] ?_
 rintro z hI K1 bG rest
 refine zD 5<|ja ((xs.length:Int)-0) (by omega)<|zD 8<|zJ 25 (((xs.length:Int)-0)≤12) (fun h1=>?_) fun h1=>?_
 ·
  refine zD 7<|jc (vs:=[v,zI 0,zI (xs.length:Int),.func (.func 94) ⟨[]⟩ ⟨[]⟩]) [0] (aPt ho hN hM) ?_
  rintro amF Y30 ⟨asT,Vy,uv⟩
  refine zD 2<|zR (.tuple ⟨[]⟩) [] [0] Y30 ⟨_,Vy,uv⟩
 exfalso;omega
theorem aEc{v:Value}{L:Cells}(ho:aw v 1 111 uX xs L)(hN:xs.length≤12)(hM:∀m∈xs,0≤m∧m <16):dG zT 93 [v,.func (.func 94) ⟨[]⟩ ⟨[]⟩] ro L (fun r Y=>BH v xs Y):=by
 refine zC [.l L]<|zD 3<|BQ ho<|zD 6<|je (zU (xs.length:Int)) (Xp (by omega))<|jp (vs:=[zU (xs.length:Int)]) [] [] (fun aG hs hZ=>(ayI (by omega)))<|zD 1<|jc (vs:=[v,zI 0,zI (xs.length:Int),zI (abA xs.length),.func (.func 94) ⟨[]⟩ ⟨[]⟩]) [0] (aPr ho hN hM) ?_
 rintro at4 Y13 ⟨aAY,RQ,NQ⟩
 refine zD 1<|zR (.tuple ⟨[]⟩) [] [0] Y13 ⟨_,RQ,NQ⟩
theorem asm{f:Nat}{rows:List bD}(hF:nY ro f K rows)(hV:ee K)(hn3:K.facts.length≤3):dG zT 41 [zP f] ro [] (fun r Y=>∃L,aw r 1 111 uX (dt K.facts.length) L∧Y=L):=by
 have hp8:=am5 hn3
 refine zE<|zD 12<|jp (vs:=[zP f]) [] [] (fun aG hs hZ=>Hg hV (hF.up hs))<|je (.int .u8 ((2^K.facts.length:Nat):Int)) (congrArg (Value.int .u8) (apT hn3))<|zD 3<|nI<|dw [1,1,0,1,0,0] [] (fun(zz:Nat×Value×Cells)=>[(2,zS),(3,zz.2.1),(7,.int .u8 ((2^K.facts.length:Nat):Int)),(8,.int .u8 (zz.1:Int))]) (fun zz=>[.l zz.2.2]) (fun zz=>zz.1≤2^K.facts.length∧aw zz.2.1 1 111 uX (cd zz.1) zz.2.2) (fun zz=>2^K.facts.length-zz.1) (⟨0,zS,[]⟩) ⟨Nat.zero_le _,aw.nil _ _ _⟩ [0] ?_
 rintro⟨k,v,L⟩ hI K1 bG rest
 dsimp only at hI
 have hrl:=gh k
 refine zD 5<|zJ 9 ((k:Int) <((2^K.facts.length:Nat):Int)) (fun h1=>?_) fun h1=>?_
 ·
  refine zD 12<|jn fun vz=>iK (sz:=1) (ps:=(cd k)) (qs:=[(k:Int)]) (enc:=uX) (w:= .slice (some ⟨vz,0,none⟩) 1 1) [1] [0] [(vz,.cells ⟨([(k:Int)].map uX).flatten⟩ 111 (0,0))] (hI.2) (fun s _ hZ=>bV [(k:Int)] (hZ _ (.head _)) (by intro p hp;rfl)) (fun p _=>ai rfl) (by simp<;>omega) (fun v14 L14 oZ=>?_)
  obtain⟨B3,Ax,tt⟩:=oZ.form
  subst tt
  refine zD 3<|je (.int .u8 ((k:Int)+1)) (aqp (n:=k+1) (by omega))<|zD 2<|bF bG (⟨k+1,(.slice B3 (((cd k)++[(k:Int)])).length Ax),L14⟩) ⟨by dsimp only;omega,by dsimp only;rw[q8];exact oZ⟩ (by dsimp only;omega) [0] (Sub.refl _)
 refine zD 5<|jc (vs:=[v,.func (.func 94) ⟨[]⟩ ⟨[]⟩]) [0] (aEc hI.2 (by rw[gh];omega) (aa4 (by omega))) ?_
 rintro aM7 Y17 ⟨aLy,awI,qt⟩
 refine zD 7<|zR (v) [] [0] Y17 ⟨_,by rw[dt,show 2^K.facts.length=k by omega,←awI];exact qt,rfl⟩
def E3(K:aC)(rows:List bD)(p:Nat→Int):Nat→Bool
 |0=>false
 |i+1=>E3 K rows p i||cz K.gone K.new K.af (cv K ((rows[i]?).getD ⟨fun _ _=>false⟩) i p)
theorem OO{rows:List bD}{p:Nat→Int}{r:bD}(h:rows[i]?=some r):E3 K rows p (i+1)=(E3 K rows p i||cz K.gone K.new K.af (cv K r i p)):=by rw[E3,h];rfl
theorem apS{rows:List bD}{p:Nat→Int}(h:E3 K rows p i=true)(hn:i≤n):E3 K rows p n=true:=by
 induction n with
 |zero=>rwa[show i=0 by omega] at h
 |succ n ih=>
  by_cases e:i=n+1
  ·rwa[e] at h
  rw[E3,ih (by omega),Bool.true_or]
def zw(K:aC)(rows:List bD)(on:Int):Bool:=(aI K on).any fun p=>E3 K rows p rows.length
theorem akR{f:α→Bool}{l:List α}{x:α}(h:l[k]?=some x) (h1:(l.take k).any f=false) (h2:f x=false):(l.take (k+1)).any f=false:=by
 rw[iB h,List.any_append,h1,List.any_cons,h2];rfl
theorem ayP{f:Nat}{rows:List bD}{on:Int}(hF:nY ro f K rows)(hV:ee K)(hR:rows.length≤1000):dG zT 42 [zP f,.int .u8 on] ro [] (fun r Y=>r= .bool (zw K rows on)∧Y=[]):=by
 obtain⟨c0,c1,c2,vc,vh,vr,vb,va,vf,vt,hv,hf,pY,nn,hr,C3,HR,JU,bW⟩:=id hF
 obtain⟨hc,hh,di⟩:=id pY
 obtain⟨eo,AO,AN,dX,rfl,DK,yP,yO⟩:=hc
 obtain⟨dJ,u5,u4,dv,rfl,xq,qX,qW⟩:=hh
 obtain⟨kZ,I1,I0,kY,rfl,O4,GD,GC⟩:=hr
 obtain⟨kI,Jy,Jw,jP,rfl,Jx,Ez,Ey⟩:=C3
 obtain⟨kJ,JB,Jz,jQ,rfl,JA,EB,EA⟩:=HR
 obtain⟨mj,UO,UL,lA,rfl,UN,M6,M5⟩:=JU
 obtain⟨nE,Ex,Ew,mV,rfl,Qp,M4,M3⟩:=bW
 have TK:=hV.rules.1
 have CX:=hV.before.1
 have Fu:=hV.after.1
 have hnf:=hV.facts.1
 refine an8 ar [] [] aW<|zD 2<|jn fun b2=>zD 5<|jn fun b5=>jd 9 [0,1]<|jc (vs:=[zP f,.int .u8 on]) [] (Lq (on:=on) hF hV) ?_
 rintro _ _ ⟨q1,q2,q3,q4,rfl,rfl⟩
 refine jg 0 [.b q1 (.cells ⟨[zP f]⟩ 106 (0,0)),.b q2 (.cells ⟨[.func (.func 137) ⟨[]⟩ ⟨[zP q1,zP q4]⟩]⟩ 239 (0,0)),.b q3 (.cells ⟨[.bool (dc K on 0 0),.bool (dc K on 0 1),.bool (dc K on 0 2),.bool (dc K on 0 3),.bool (dc K on 1 0),.bool (dc K on 1 1),.bool (dc K on 1 2),.bool (dc K on 1 3),.bool (dc K on 2 0),.bool (dc K on 2 1),.bool (dc K on 2 2),.bool (dc K on 2 3),.bool (dc K on 3 0),.bool (dc K on 3 1),.bool (dc K on 3 2),.bool (dc K on 3 3)]⟩ 162 (0,0)),.b q4 (.cells ⟨[.int .u8 on]⟩ 111 (0,0))]<|jf [0,1,2,3,5] ((q1,.cells ⟨[zP f]⟩ 106 (0,0))::((q2,.cells ⟨[.func (.func 137) ⟨[]⟩ ⟨[zP q1,zP q4]⟩]⟩ 239 (0,0))::((q3,.cells ⟨[.bool (dc K on 0 0),.bool (dc K on 0 1),.bool (dc K on 0 2),.bool (dc K on 0 3),.bool (dc K on 1 0),.bool (dc K on 1 1),.bool (dc K on 1 2),.bool (dc K on 1 3),.bool (dc K on 2 0),.bool (dc K on 2 1),.bool (dc K on 2 2),.bool (dc K on 2 3),.bool (dc K on 3 0),.bool (dc K on 3 1),.bool (dc K on 3 2),.bool (dc K on 3 3)]⟩ 162 (0,0))::((q4,.cells ⟨[.int .u8 on]⟩ 111 (0,0))::[(b2,.cells ⟨[zP f]⟩ 106 (0,0))])))) fun yN bZ iL=>zD 2<|jrf [] (YL (on:=on) (hF.up bZ) hV (iL _ (.head _)) (iL _ (.tail _ (.head _))) (iL _ (.tail _ (.tail _ (.head _)))) (iL _ (.tail _ (.tail _ (.tail _ (.head _)))))) (by rintro _ _ _ _ ⟨_,_,rfl,_⟩;rfl) (fun(zz:Bool)=>[.b b5 (.cells ⟨[.bool zz]⟩ 4 (0,0))]) (fun kk=>(fun(zz:Bool)=>zz=false∧(((aI K on).take kk).any fun p=>E3 K rows p rows.length)=false)) (fun jump=>(fun(zz:Bool)=>jump= .exit 0∧zz=true∧zw K rows on=true)) false ⟨rfl,rfl⟩ [0] ?_ ?_ ?_
 ·
  rintro bl4 bd4 kk4 vs4 LL4 bo ro4 hk4 axx hI kA
  obtain⟨p4,hp4,rfl,rfl⟩:=axx
  have hpb:=(iR hV on).2 p4 (zL hp4)
  refine zD 1<|jn fun b6=>jd 2 [0]<|aEI<|zD 3<|jl (b:=b2) (off:=0) (m:=1) (vs:=[zP f]) 0 ⟨_,_,_,.inl (kA _ _ (iL _ (.tail _ (.tail _ (.tail _ (.tail _ (.head _))))))),rfl⟩<|zD 2<|jl (b:=f) (off:=0) (m:=13) (vs:=[c0,c1,c2,.slice eo K.cs.length dX,.slice dJ hv.length dv,.slice kZ K.rules.length kY,.slice kI K.before.length jP,.slice kJ K.after.length jQ,zI K.gone,zI K.new,zI K.af,.slice mj K.facts.length lA,.slice nE rows.length mV]) 12 ⟨_,_,_,.inl (kA _ _ (bZ _ _ hf)),rfl⟩<|zD 4<|aPP [1] [1,0,1,1,0,1,0,3,0,1,0,0] [] (fun(zz:Nat×Bool)=>[(2,zP b2),(4,.bool false),(5,zP b5),(6,zP b6),(16,zI (rows.length:Int)),(17,zI (zz.1:Int))]) (fun zz=>[.b b5 (.cells ⟨[.bool zz.2]⟩ 4 (0,0)),.b b6 (.cells ⟨[zI (p4 0),zI (p4 1),zI (p4 2),zI (p4 3)]⟩ 136 (0,0))]) (fun zz=>zz.1≤rows.length∧zz.2=false∧E3 K rows p4 zz.1=false) (fun zz=>rows.length-zz.1) (⟨0,bo⟩) ⟨Nat.zero_le _,hI.1,rfl⟩ [2,0,1] ?_
  rintro⟨i,bo⟩ hJ K1 bG rest
  dsimp only at hJ
  refine zD 5<|zJ 18 ((i:Int) <(rows.length:Int)) (fun h5=>?_) fun h5=>?_
  ·
   refine zD 5 ?_
   obtain⟨r_,CU⟩:∃r_,rows[i]?=some r_:=⟨_,List.getElem?_eq_getElem (by omega)⟩
   refine zD 6<|jl (b:=b2) (off:=0) (m:=1) (vs:=[zP f]) 0 ⟨_,_,_,.inl (kA _ _ (iL _ (.tail _ (.tail _ (.tail _ (.tail _ (.head _))))))),rfl⟩<|jl (b:=b2) (off:=0) (m:=1) (vs:=[zP f]) 0 ⟨_,_,_,.inl (kA _ _ (iL _ (.tail _ (.tail _ (.tail _ (.tail _ (.head _))))))),rfl⟩<|jd 2 [1]<|jp (vs:=[zP f,zI (i:Int),.agg ⟨[zI (p4 0),zI (p4 1),zI (p4 2),zI (p4 3)]⟩]) [] [] (fun aG hs hZ=>arp (hF.up (Sub.trans (bZ.trans kA) hs)) hV CU hpb)<|jp (vs:=[zP f,.agg ⟨[zI ((cv K r_ i p4).past),zI ((cv K r_ i p4).w0),zI ((cv K r_ i p4).w1),zI ((cv K r_ i p4).w2),zI ((cv K r_ i p4).w3),zI ((cv K r_ i p4).gone),zI ((cv K r_ i p4).new),zI ((cv K r_ i p4).af)]⟩]) [] [] (fun aG hs hZ=>agV (x:=(cv K r_ i p4)) (hs _ _ (kA _ _ (bZ _ _ hf))))<|aS 6 fun As AA zi=>jd 1 [0]<|fW zi<|jd 5 [0]<|js 26 (cz K.gone K.new K.af (cv K r_ i p4)) (fun h7=>?_) (fun h7=>?_)
   ·
    refine zD 2<|jys qy0 (Sub.refl _) (.exit 0) (cz K.gone K.new K.af (cv K r_ i p4)) ⟨rfl,by assumption,List.any_eq_true.2 ⟨p4,zL hp4,apS (i:=i+1) (by rw[OO CU];simp[*]) (by omega)⟩⟩ [2,0]
   refine zD 3<|ja ((i:Int)+1) (by omega)<|zD 2<|bF bG (⟨i+1,(cz K.gone K.new K.af (cv K r_ i p4))⟩) ⟨by dsimp only;omega,by assumption,by dsimp only;rw[OO CU,hJ.2.2,Bool.false_or];assumption⟩ (by dsimp only;omega) [0,1,2] (Sub.refl _)
  refine zD 2<|jyn qy0 (Sub.refl _) bo ⟨hJ.2.1,akR hp4 hI.2 (by have:=hJ.2.2;rwa[show i=rows.length by omega] at this)⟩ [2,0]
 ·
  rintro bd4 bo Z4 hI hZ4
  subst hZ4
  refine jd 6 [2]<|jrM qm0.a.m (.bool bo) [0] [] [] [] bZ ⟨by have:=hI.2;rw[List.take_of_length_le (Nat.le_refl _)] at this;rw[hI.1,zw,this],rfl⟩
 rintro bd4 bo Z4 jump hS hZ4
 obtain⟨rfl,hS⟩:=hS
 subst hZ4
 refine jd 6 [2]<|jrM qm0.a.m (.bool bo) [0] [] [] [] bZ ⟨by rw[hS.1,hS.2],rfl⟩
def iAn(k:IntKind)(a b:Int):Int:=k.wrap (BitVec.ofInt k.bits a&&& ~~~ BitVec.ofInt k.bits b).toNat
theorem avk:dt 0=[0]:=by kernel_rfl
theorem avj:dt 1=[0,1]:=by kernel_rfl
theorem avi:dt 2=[0,1,2,3]:=by kernel_rfl
theorem avh:dt 3=[0,1,2,4,3,5,6,7]:=by kernel_rfl
theorem Rc(h:n≤3):(dt n).length≤8∧∀m∈dt n,0≤m∧m <16:=by
 obtain rfl|rfl|rfl|rfl:n=0∨n=1∨n=2∨n=3:=by omega
 ·rw[avk];decide
 ·rw[avj];decide
 ·rw[avi];decide
 rw[avh];decide
def p6(K:aC)(rows:List bD):Option Int:=(dt K.facts.length).find? fun m=>zw K rows (iAn .u8 (aP K) m)
theorem xG{p:α→Bool}{l:List α}{x:α}(hx:l[k]?=some x):(l.drop k).find? p=bif p x then some x else (l.drop (k+1)).find? p:=by rw[eE hx,List.find?_cons];cases p x<;>rfl
theorem H8{p:α→Bool}{l:List α}(hx:¬k <l.length):(l.drop k).find? p=none:=by rw[eA hx];rfl
theorem avw{rows:List bD}(hK:fx ro l K)(hV:ee K)(hR:rows.length≤2)(hB:gN ro l K rows)(hn3:K.facts.length≤3):dG zT 51 [.agg ⟨l⟩] ro [] (fun r Y=>∃v e,r= .tuple ⟨[v,zI e]⟩∧((∃m,p6 K rows=some m∧aw v 1 3 cy (fB m 4) Y∧e=0)∨(p6 K rows=none∧v= zS∧e=11∧Y=[]))):=by
 obtain⟨v0,v1,v3,v4,v5,v6,v7,vb,fa,fc,hv,rfl,_⟩:=hK
 have JO:=Rc hn3
 have R5:=JO.1
 refine zE<|zD 2<|jn fun b1=>jd 6 [0]<|jc (vs:=[.agg ⟨[v0,v1,.slice fa 0 fc,v3,v4,v5,v6,v7,zI K.gone,zI K.new,zI K.af,vb]⟩]) [] (hB _ (Sub.refl _)) ?_
 rintro _ TU ⟨f10,rfl,We⟩
 refine zD 5<|jf [0] TU (fun yN bZ iL=>?_)
 have Ao:=We _ bZ iL
 refine zD 13<|jc (vs:=[zP f10]) [] (asm Ao hV hn3) ?_
 rintro v17 Ts ⟨_,qt,rfl⟩
 refine BQ qt<|zD 3<|dw [1,1,1,0,1,0,0] [] (fun(zz:Nat)=>[(4,zP f10),(17,v17),(18,zI ((dt K.facts.length).length:Int)),(19,zI (zz:Int))]) (fun zz=>[.l Ts,.b b1 (.cells ⟨[v0,v1,.slice fa 0 fc,v3,v4,v5,v6,v7,zI K.gone,zI K.new,zI K.af,vb]⟩ 38 (0,0))]) (fun zz=>zz≤(dt K.facts.length).length∧p6 K rows=((dt K.facts.length).drop zz).find? (fun m=>zw K rows (iAn .u8 (aP K) m))) (fun zz=>(dt K.facts.length).length-zz) 0 ⟨Nat.zero_le _,rfl⟩ [0,1] ?_
 rintro k hI K1 bG rest
 refine zD 5<|zJ 20 ((k:Int) <((dt K.facts.length).length:Int)) (fun h4=>?_) fun h4=>?_
 ·
  refine zD 6 ?_
  obtain⟨tH,ko⟩:=zG ((dt K.facts.length)) k (by first|omega| (simp only[List.length_set,zM];omega))
  refine Af 1 qt ko fun b21 aiz=>ki 0 [0] Ts (fun s _ hZ=>bh qt aiz hZ ko)<|zD 6<|jp (vs:=[zP f10]) [] [] (fun aG hs hZ=>Hg hV (Ao.up hs))<|zD 1<|je (.int .u8 (iAn .u8 (aP K) tH)) rfl<|jc (vs:=[zP f10,.int .u8 (iAn .u8 (aP K) tH)]) [] (ayP Ao hV (by omega)) ?_
  rintro _ _ ⟨rfl,rfl⟩
  refine jg 0 []<|zD 1<|js 28 (zw K rows (iAn .u8 (aP K) tH)) (fun h5=>?_) (fun h5=>?_)
  ·
   refine zD 4<|jc (vs:=[.int .u8 tH]) [] (SQ) ?_
   rintro v30 L30 ⟨_,uv,rfl⟩
   refine zD 4<|aK q0.a (.tuple ⟨[v30,zI 0]⟩) [] [0] L30 bZ ⟨_,_,rfl,rfl,_,_,rfl,.inl ⟨_,by rw[hI.2,xG ko];simp only[*,cond_true],uv,rfl⟩⟩
  refine zD 3<|ja ((k:Int)+1) (by omega)<|zD 2<|bF bG (k+1) ⟨by omega,by rw[hI.2,xG ko];simp only[*,cond_false]⟩ (by omega) [0,1] (Sub.refl _)
 refine zD 8<|aK q0.a (.tuple ⟨[zS,zI 11]⟩) [] [] [] bZ ⟨_,_,rfl,rfl,_,_,rfl,.inr ⟨by rw[hI.2,H8 (by omega)],rfl,rfl,rfl⟩⟩
theorem agS{f:Nat}{rows:List bD}(hF:nY ro f K rows)(hV:ee K)(hR:rows.length≤2):Ae zT 78 [zP f] ro [] (fun r Y=>∃zs v e,r= .tuple ⟨[v,zI e]⟩∧zs.Perm (cU K (aP K) (cz K.gone K.new K.af) rows)∧aw v 8 138 cR zs Y∧((zs=[]∧e=9)∨(zs≠[]∧e=0))):=by
 refine CJ ar [] [] aW fun fr=>zD 9<|jp (vs:=[zP f]) [] [] (fun aG hs hZ=>Hg hV (hF.up hs))<|Pa (vs:=[zP f,.int .u8 (aP K)]) [] (fun _ _ h=>h) (YK hV hF hR) ?_
 rintro v8 Y8 ⟨zs,hz,ho8⟩
 refine zD 6<|BQ ho8<|zD 2<|zJ 11 ((zs.length:Int)=0) (fun h1=>?_) fun h1=>?_
 ·
  refine zD 7<|O9 qC (.tuple ⟨[zS,zI 9]⟩) [1] [] (Sub.refl _) ⟨zs,_,_,rfl,hz,by rw[show zs=[] from List.eq_nil_of_length_eq_zero (by omega)];exact aw.nil _ _ _,.inl ⟨List.eq_nil_of_length_eq_zero (by omega),rfl⟩⟩
 refine zD 9<|O9 qC (.tuple ⟨[v8,zI 0]⟩) [0,1] Y8 (Sub.refl _) ⟨zs,_,_,rfl,hz,ho8,.inr ⟨fun e=>by subst e;simp at*,rfl⟩⟩
theorem YM{rows:List bD}(hK:fx ro l K)(hV:ee K)(hR:rows.length≤2)(hB:gN ro l K rows):azx zT 107 [.agg ⟨l⟩] ro [] (fun r aG Y=>∃f zs v e,r= .tuple ⟨[pV f,v,zI e]⟩∧nY aG f K rows∧zs.Perm (cU K (aP K) (cz K.gone K.new K.af) rows)∧aw v 8 138 cR zs Y∧((zs=[]∧e=9)∨(zs≠[]∧e=0))):=by
 obtain⟨v0,v1,v3,v4,v5,v6,v7,vb,fa,fc,hv,rfl,_⟩:=hK
 refine aEF (hm:=ar) [] [] aW fun fr=>zD 2<|jn fun b1=>jd 7 [0]<|jc (vs:=[.agg ⟨[v0,v1,.slice fa 0 fc,v3,v4,v5,v6,v7,zI K.gone,zI K.new,zI K.af,vb]⟩]) [] (hB _ (Sub.refl _)) ?_
 rintro _ TU ⟨f10,rfl,We⟩
 refine zD 5<|jf [0] TU (fun yN bZ iL=>?_)
 have Ao:=We _ bZ iL
 refine zD 12<|Pa (vs:=[zP f10]) [] (fun _ _ h=>h) (agS Ao hV hR) ?_
 rintro _ Y18 ⟨zs,v18,e18,rfl,hz,abW,he⟩
 refine zD 16<|aPI qC.a (.tuple ⟨[zP f10,v18,zI e18]⟩) [0,2] Y18 bZ ⟨f10,zs,v18,e18,rfl,Ao,hz,abW,he⟩
theorem anZ{x:aj}:du zT 68 [.agg ⟨[zI x.past,zI x.w0,zI x.w1,zI x.w2,zI x.w3,zI x.gone,zI x.new,zI x.af]⟩] ro (zI x.af):=by
 refine zE<|zD 2<|jn fun b1=>jd 9 [0]<|zX (zI x.af) ⟨rfl,rfl⟩
theorem agL{rows:List bD}(hK:fx ro l K)(hV:ee K)(hR:rows.length≤2)(hB:gN ro l K rows):Ae zT 65 [.agg ⟨l⟩,.func (.func 68) ⟨[]⟩ ⟨[]⟩] ro [] (fun r Y=>∃zs a b e,zs.Perm (cU K (aP K) (cz K.gone K.new K.af) rows)∧Y=[]∧r= .tuple ⟨[.agg ⟨[zI a,zI b]⟩,zI e]⟩∧((zs=[]∧a=0∧b=0∧e=9)∨(zs≠[]∧a=u6 (zs.map fun x=>x.af)∧b=Cw (zs.map fun x=>x.af)∧e=0))):=by
 obtain⟨v0,v1,v3,v4,v5,v6,v7,vb,fa,fc,hv,rfl,_⟩:=id hK
 refine CJ ar [] [] aW fun fr=>zD 2<|jn fun b2=>jn fun b4=>jd 5 [1]<|aob (vs:=[.agg ⟨[v0,v1,.slice fa 0 fc,v3,v4,v5,v6,v7,zI K.gone,zI K.new,zI K.af,vb]⟩]) [] (fun _ _ h=>h) (YM hK hV hR hB) ?_
 rintro _ aG Y14 bZ ⟨f14,zs,v14,Oo,rfl,Ao,hz,VB,he⟩
 have RL:∀x∈zs,(-4≤x.gone∧x.gone≤4)∧(-4≤x.new∧x.new≤4)∧(0≤x.af∧x.af≤4):=fun x hx=>by obtain⟨i,r,p,_,_,rfl,_⟩:=fN (hz.mem_iff.1 hx);exact nG hV r i p
 have hzl:zs.length≤1250:=by rw[hz.length_eq];exact oM hV _ _ hR
 refine zD 7<|jf [0] Y14 (fun ro4 oO Zm=>?_)
 have hZ1:=VB.jF Zm
 obtain⟨rY,Nc,Na,qi,rfl,Nb,GG,GF⟩:=hZ1
 refine zD 7<|js 19 (!decide (Oo=0)) (fun h5=>?_) (fun h5=>?_)
 ·
  replace h5:=of_decide_eq_false (by simpa using h5)
  have su:zs=[]∧Oo=9:=by rcases he with h| ⟨_,h⟩;exact h;omega
  refine jd 9 [0]<|avX qC.a.a (.tuple ⟨[.agg ⟨[zI 0,zI 0]⟩,zI Oo]⟩) [0] [2] [] (bZ.trans oO) ⟨zs,_,_,_,hz,rfl,rfl,.inl ⟨su.1,rfl,rfl,su.2⟩⟩
 replace h5:=of_decide_eq_true (by simpa using h5)
 have su:zs≠[]∧Oo=0:=by rcases he with ⟨_,h⟩|h;omega;exact h
 have hzp:0 <zs.length:=List.length_pos_iff.2 su.1
 refine zD 14<|nI<|dw [1,1,1,1,0,1,0,0] [] (fun(zz:Nat×Value×Cells)=>[(1,.func (.func 68) ⟨[]⟩ ⟨[]⟩),(4,zP b4),(5,zI 0),(9,zz.2.1),(22,.slice rY zs.length qi),(23,zI (zs.length:Int)),(24,zI (zz.1:Int))]) (fun zz=>[.l zz.2.2,.b b4 (.cells ⟨[zI 0,zI 0]⟩ 61 (0,0)),.b b2 (.cells ⟨[v0,v1,.slice fa 0 fc,v3,v4,v5,v6,v7,zI K.gone,zI K.new,zI K.af,vb]⟩ 38 (0,0)),.l fr]) (fun zz=>zz.1≤zs.length∧aw zz.2.1 1 3 cy ((zs.take zz.1).map fun x=>x.af) zz.2.2) (fun zz=>zs.length-zz.1) (⟨0,zS,[]⟩) ⟨by dsimp only;omega,aw.nil _ _ _⟩ (zN 0 4) ?_
 rintro⟨k,vS,LS⟩ hI K1 bG rest
 dsimp only at hI
 refine zD 5<|zJ 25 ((k:Int) <(zs.length:Int)) (fun h6=>?_) fun h6=>?_
 ·
  refine zD 6 ?_
  obtain⟨MA,A6⟩:=zG zs k
  refine gX qi 8 GG A6<|jl 0 (GF _ _ A6)<|jn fun OJ=>jd 6 [0,0]<|jp (vs:=[.agg ⟨[zI MA.past,zI MA.w0,zI MA.w1,zI MA.w2,zI MA.w3,zI MA.gone,zI MA.new,zI MA.af]⟩]) [] [] (fun aG hs hZ=>(anZ (x:=MA)))<|jn fun b32=>iK (sz:=1) (ps:=((zs.take k).map fun x=>x.af)) (qs:=[MA.af]) (enc:=cy) (w:= .slice (some ⟨b32,0,none⟩) 1 1) [2] [0] [(b32,.cells ⟨([MA.af].map cy).flatten⟩ 3 (0,0))] (hI.2) (fun s _ hZ=>bV [MA.af] (hZ _ (.head _)) (by intro p hp;rfl)) (fun p _=>ai rfl) (by simp only[List.length_map,List.length_take,List.length_cons,List.length_nil];omega) (fun v33 L33 HA=>?_)
  obtain⟨atn,atd,axD⟩:=HA.form
  subst axD
  refine zD 3<|ja ((k:Int)+1) (by omega)<|zD 2<|bF bG (⟨k+1,(.slice atn ((((zs.take k).map fun x=>x.af)++[MA.af])).length atd),L33⟩) ⟨by dsimp only;omega,by rw[iB A6,List.map_append];exact HA⟩ (by dsimp only;omega) [0,3,4,5] (Sub.refl _)
 refine zD 5<|jp (vs:=[vS]) [0] LS (fun aG hs hZ=>arl (hI.2.jF hZ) ⟨by simp only[List.length_map,List.length_take];omega,by simp only[List.length_map,List.length_take];omega⟩) ?_
 refine jd 4 [1]<|avX qC.a.a (.tuple ⟨[.agg ⟨[zI (u6 ((zs.take k).map fun x=>x.af)),zI (Cw ((zs.take k).map fun x=>x.af))]⟩,zI 0]⟩) [1] [3] [] (bZ.trans oO) ⟨zs,_,_,_,hz,rfl,rfl,.inr ⟨su.1,by rw[show k=zs.length by omega,List.take_length],by rw[show k=zs.length by omega,List.take_length],rfl⟩⟩
theorem avP{rows:List bD}(hK:fx ro l K)(hV:ee K)(hR:rows.length≤2)(hB:gN ro l K rows):Ae zT 20 [.agg ⟨l⟩] ro [] (fun r Y=>∃zs a b e,zs.Perm (cU K (aP K) (cz K.gone K.new K.af) rows)∧Y=[]∧r= .tuple ⟨[.agg ⟨[zI a,zI b]⟩,zI e]⟩∧((zs=[]∧a=0∧b=0∧e=9)∨(zs≠[]∧a=u6 (zs.map fun x=>x.af)∧b=Cw (zs.map fun x=>x.af)∧e=0))):=by
 obtain⟨v0,v1,v3,v4,v5,v6,v7,vb,fa,fc,hv,rfl,_⟩:=id hK
 refine CJ ar [] [] aW fun fr=>zD 2<|jn fun b1=>jn fun b2=>jd 5 [1]<|Pa (vs:=[.agg ⟨[v0,v1,.slice fa 0 fc,v3,v4,v5,v6,v7,zI K.gone,zI K.new,zI K.af,vb]⟩,.func (.func 68) ⟨[]⟩ ⟨[]⟩]) [] (fun _ _ h=>h) (agL hK hV hR hB) ?_
 rintro _ _ ⟨zs,a5,c5,e5,hz,rfl,rfl,he⟩
 refine jg 0 []<|jd 6 [0]<|avX qC (.tuple ⟨[.agg ⟨[zI a5,zI c5]⟩,zI e5]⟩) [0] [2] [] (Sub.refl _) ⟨zs,_,_,_,hz,rfl,rfl,he⟩
theorem avO{a b:Int}:du zT 106 [zI a,zI b] ro (.bool (decide (a=b))):=by
 refine zE<|zD 12<|zX (.bool (decide (a=b))) ⟨rfl,rfl⟩
theorem aIy{a b:Int}{s:Bool}:du zT 53 [zI a,zI b,.bool s] ro (.agg ⟨[zI a,zI b,.bool s]⟩):=by
 refine zE<|zD 2<|jn fun b6=>jd 10 [0]<|zR (.agg ⟨[zI a,zI b,.bool s]⟩) [0] [] [] ⟨rfl,rfl⟩
theorem cAt{w:ByteArray}{a b c:Int}:du zT 105 [.string w,zI a,zI b,zI c] ro (.agg ⟨[.string w,zI a,zI b,zI c,.bool false]⟩):=by
 refine zE<|zD 2<|jn fun b8=>jd 11 [0]<|zR (.agg ⟨[.string w,zI a,zI b,zI c,.bool false]⟩) [0] [] [] ⟨rfl,rfl⟩
theorem aIz{w:ByteArray}{a:Int}:du zT 104 [.string w,zI a] ro (.agg ⟨[.string w,zI (-1),zI a,(zS)]⟩):=by
 refine zE<|zD 2<|jn fun b4=>jd 9 [0]<|zR (.agg ⟨[.string w,zI (-1),zI a,zS]⟩) [0] [] [] ⟨rfl,rfl⟩
theorem cIs{w:ByteArray}{a:Int}{va:Option Addr}{vn vc:Nat}:du zT 103 [.string w,zI a,(.slice va vn vc)] ro (.agg ⟨[.string w,zI a,zI (-1),(.slice va vn vc)]⟩):=by
 refine zE<|zD 2<|jn fun b6=>jd 10 [0]<|zR (.agg ⟨[.string w,zI a,zI (-1),(.slice va vn vc)]⟩) [0] [] [] ⟨rfl,rfl⟩
def WN:List bN:=[⟨(bs [102,111,111,100]),-1⟩,⟨(bs [98,114,101,97,100]),0⟩,⟨(bs [99,108,111,116,104]),-1⟩,⟨(bs [104,97,116,115]),2⟩]
def Dl:List cA:=[⟨(bs [98,97,107,101,114]),1,-1,[]⟩,⟨(bs [98,111,110,110,101,116,115]),-1,3,[]⟩,⟨(bs [99,111,110,102,101,99,116,105,111,110,101,114]),0,-1,[0]⟩,⟨(bs [104,97,116,116,101,114]),3,-1,[]⟩,⟨(bs [109,101,114,99,101,114]),2,-1,[3]⟩,⟨(bs [109,105,108,108,105,110,101,114]),-1,1,[]⟩]
def Ow:List aB:=[⟨(bs [115,109,105,116,104]),0,1,0,false⟩,⟨(bs [97,110,110,97]),0,2,3,false⟩,⟨(bs [115,109,121,116,104]),1,1,2,false⟩]
def Ox:List aB:=[⟨(bs [115,109,121,116,104]),0,2,0,false⟩,⟨(bs [115,109,105,116,104]),1,1,-1,false⟩,⟨(bs [98,101,110]),0,1,4,false⟩]
abbrev aV(n:Int):aC where
 ways:=[[⟨1,0,0,0,0,0,0⟩,⟨2,0,0,0,0,0,0⟩]]
 cs:=WN
 hd:=Dl
 rules:=[⟨(bs [121]),(bs [105])⟩]
 before:=Ow
 after:=Ox
 gone:=1
 new:=1
 af:=n
 facts:=[]
 str:=[[⟨1,0⟩,⟨2,0⟩],[⟨1,0⟩]]
abbrev Eb(nS Jl b9 z0 q6 vy BW:Nat)(n:Int):List Value:=[.slice (some ⟨nS,0,none⟩) 2 2,.slice (some ⟨Jl,0,none⟩) 1 1,zS,.slice (some ⟨b9,0,none⟩) 4 4,.slice (some ⟨z0,0,none⟩) 6 6,.slice (some ⟨q6,0,none⟩) 1 1,.slice (some ⟨vy,0,none⟩) 3 3,.slice (some ⟨BW,0,none⟩) 3 3,zI 1,zI 1,zI n,zS]
abbrev Iq(nS OH FC Jl b29 b9 z0 wX IN q6 vy BW:Nat):Cells:=[(nS,.cells ⟨[.slice (some ⟨OH,0,none⟩) 2 2,.slice (some ⟨FC,0,none⟩) 1 1]⟩ 82 (0,0)),(OH,.cells ⟨[zI 1,zI 0,zI 2,zI 0]⟩ 81 (0,0)),(FC,.cells ⟨[zI 1,zI 0]⟩ 81 (0,0)),(Jl,.cells ⟨[.slice (some ⟨b29,0,none⟩) 2 2]⟩ 89 (0,0)),(b29,.cells ⟨[zI 1,zI 0,zI 0,zI 0,zI 0,zI 0,zI 0,zI 2,zI 0,zI 0,zI 0,zI 0,zI 0,zI 0]⟩ 85 (0,0)),(b9,.cells ⟨[.string (bs [102,111,111,100]),zI (-1),.string (bs [98,114,101,97,100]),zI 0,.string (bs [99,108,111,116,104]),zI (-1),.string (bs [104,97,116,115]),zI 2]⟩ 170 (0,0)),(z0,.cells ⟨[.string (bs [98,97,107,101,114]),zI 1,zI (-1),zS,.string (bs [98,111,110,110,101,116,115]),zI (-1),zI 3,zS,.string (bs [99,111,110,102,101,99,116,105,111,110,101,114]),zI 0,zI (-1),.slice (some ⟨wX,0,none⟩) 1 1,.string (bs [104,97,116,116,101,114]),zI 3,zI (-1),zS,.string (bs [109,101,114,99,101,114]),zI 2,zI (-1),.slice (some ⟨IN,0,none⟩) 1 1,.string (bs [109,105,108,108,105,110,101,114]),zI (-1),zI 1,zS]⟩ 173 (0,0)),(wX,.cells ⟨[zI 0]⟩ 3 (0,0)),(IN,.cells ⟨[zI 3]⟩ 3 (0,0)),(q6,.cells ⟨[.string (bs [121]),.string (bs [105])]⟩ 92 (0,0)),(vy,.cells ⟨[.string (bs [115,109,105,116,104]),zI 0,zI 1,zI 0,.bool false,.string (bs [97,110,110,97]),zI 0,zI 2,zI 3,.bool false,.string (bs [115,109,121,116,104]),zI 1,zI 1,zI 2,.bool false]⟩ 76 (0,0)),(BW,.cells ⟨[.string (bs [115,109,121,116,104]),zI 0,zI 2,zI 0,.bool false,.string (bs [115,109,105,116,104]),zI 1,zI 1,zI (-1),.bool false,.string (bs [98,101,110]),zI 0,zI 1,zI 4,.bool false]⟩ 76 (0,0))]
abbrev akt(wX IN:Nat):List bx:=[⟨(bs [98,97,107,101,114]),1,-1,zS⟩,⟨(bs [98,111,110,110,101,116,115]),-1,3,zS⟩,⟨(bs [99,111,110,102,101,99,116,105,111,110,101,114]),0,-1,.slice (some ⟨wX,0,none⟩) 1 1⟩,⟨(bs [104,97,116,116,101,114]),3,-1,zS⟩,⟨(bs [109,101,114,99,101,114]),2,-1,.slice (some ⟨IN,0,none⟩) 1 1⟩,⟨(bs [109,105,108,108,105,110,101,114]),-1,1,zS⟩]
theorem Mo{nS OH FC Jl b29 b9 z0 wX IN q6 vy BW:Nat}{n:Int}(hk:Knows ro (Iq nS OH FC Jl b29 b9 z0 wX IN q6 vy BW)):fx ro (Eb nS Jl b9 z0 q6 vy BW n) (aV n):=
 ⟨_,_,_,_,_,_,_,_,none,0,akt wX IN,rfl,
  ⟨[.slice (some ⟨OH,0,none⟩) 2 2,.slice (some ⟨FC,0,none⟩) 1 1],bU (enc:=fw) (T:=82) [.slice (some ⟨OH,0,none⟩) 2 2,.slice (some ⟨FC,0,none⟩) 1 1] (hk _ (.head _)) (fun _ _=>rfl),
   .cons (bU (enc:=cK) (T:=81) [⟨1,0⟩,⟨2,0⟩] (hk _ (.tail _ (.head _))) (fun _ _=>rfl)) (.cons (bU (enc:=cK) (T:=81) [⟨1,0⟩] (hk _ (.tail _ (.tail _ (.head _)))) (fun _ _=>rfl)) .nil)⟩,
  ⟨[.slice (some ⟨b29,0,none⟩) 2 2],bU (enc:=fw) (T:=89) [.slice (some ⟨b29,0,none⟩) 2 2] (hk _ (.tail _ (.tail _ (.tail _ (.head _))))) (fun _ _=>rfl),
   .cons (bU (enc:=kS) (T:=85) [⟨1,0,0,0,0,0,0⟩,⟨2,0,0,0,0,0,0⟩] (hk _ (.tail _ (.tail _ (.tail _ (.tail _ (.head _)))))) (fun _ _=>rfl)) .nil⟩,
  ⟨bU (enc:=pe) (T:=170) WN (hk _ (.tail _ (.tail _ (.tail _ (.tail _ (.tail _ (.head _))))))) (fun _ _=>rfl),bU (enc:=mf) (T:=173) (akt wX IN) (hk _ (.tail _ (.tail _ (.tail _ (.tail _ (.tail _ (.tail _ (.head _)))))))) (fun _ _=>rfl),
   .cons ⟨rfl,rfl,rfl,bB.nil _ _ _ _ _⟩ (.cons ⟨rfl,rfl,rfl,bB.nil _ _ _ _ _⟩ (.cons ⟨rfl,rfl,rfl,bU (enc:=cy) (T:=3) [0] (hk _ (.tail _ (.tail _ (.tail _ (.tail _ (.tail _ (.tail _ (.tail _ (.head _))))))))) (fun _ _=>rfl)⟩ (.cons ⟨rfl,rfl,rfl,bB.nil _ _ _ _ _⟩ (.cons ⟨rfl,rfl,rfl,bU (enc:=cy) (T:=3) [3] (hk _ (.tail _ (.tail _ (.tail _ (.tail _ (.tail _ (.tail _ (.tail _ (.tail _ (.head _)))))))))) (fun _ _=>rfl)⟩ (.cons ⟨rfl,rfl,rfl,bB.nil _ _ _ _ _⟩ .nil)))))⟩,
  .cons ⟨rfl,rfl,rfl⟩ (.cons ⟨rfl,rfl,rfl⟩ (.cons ⟨rfl,rfl,rfl⟩ (.cons ⟨rfl,rfl,rfl⟩ (.cons ⟨rfl,rfl,rfl⟩ (.cons ⟨rfl,rfl,rfl⟩ .nil))))),
  bU (enc:=iG) (T:=92) [⟨(bs [121]),(bs [105])⟩] (hk _ (.tail _ (.tail _ (.tail _ (.tail _ (.tail _ (.tail _ (.tail _ (.tail _ (.tail _ (.head _))))))))))) (fun _ _=>rfl),bU (enc:=eC) (T:=76) Ow (hk _ (.tail _ (.tail _ (.tail _ (.tail _ (.tail _ (.tail _ (.tail _ (.tail _ (.tail _ (.tail _ (.head _)))))))))))) (fun _ _=>rfl),bU (enc:=eC) (T:=76) Ox (hk _ (.tail _ (.tail _ (.tail _ (.tail _ (.tail _ (.tail _ (.tail _ (.tail _ (.tail _ (.tail _ (.tail _ (.head _))))))))))))) (fun _ _=>rfl),bB.nil _ _ _ _ _⟩
theorem Mp(nS Jl b9 z0 q6 vy BW:Nat)(n:Int):Tu (aV n) (Eb nS Jl b9 z0 q6 vy BW n):=
 ⟨_,_,_,_,_,_,_,_,none,0,rfl,vM rfl rfl rfl rfl rfl rfl rfl rfl⟩
theorem Ms{n:Int}:dG zT 49 [zI n] ro [] (fun r Y=>∃l,r= .agg ⟨l⟩∧(∀aD,Knows aD Y→fx aD l (aV n))∧Tu (aV n) l):=by
 refine zE<|zD 2<|jn fun b2=>zD 7<|jn fun b9=>jp (vs:=[.string (bs [98,97,107,101,114]),zI 1,zS]) [] [] (fun aG hs hZ=>cIs)<|jp (vs:=[.string (bs [98,111,110,110,101,116,115]),zI 3]) [] [] (fun aG hs hZ=>aIz)<|jn fun wX=>jp (vs:=[.string (bs [99,111,110,102,101,99,116,105,111,110,101,114]),zI 0,.slice (some ⟨wX,0,none⟩) 1 1]) [] [] (fun aG hs hZ=>cIs)<|jp (vs:=[.string (bs [104,97,116,116,101,114]),zI 3,zS]) [] [] (fun aG hs hZ=>cIs)<|jn fun IN=>jp (vs:=[.string (bs [109,101,114,99,101,114]),zI 2,.slice (some ⟨IN,0,none⟩) 1 1]) [] [] (fun aG hs hZ=>cIs)<|jp (vs:=[.string (bs [109,105,108,108,105,110,101,114]),zI 1]) [] [] (fun aG hs hZ=>aIz)<|jn fun z0=>zD 1<|jn fun b3=>jd 6 [0]<|jn fun OH=>zD 1<|jn fun FC=>jn fun nS=>zD 3<|jn fun b29=>zD 1<|jn fun Jl=>zD 1<|jn fun b4=>jd 8 [0,0,6]<|jp (vs:=[.string (bs [115,109,105,116,104]),zI 0,zI 1,zI 0]) [] [] (fun aG hs hZ=>cAt)<|jp (vs:=[.string (bs [97,110,110,97]),zI 0,zI 2,zI 3]) [] [] (fun aG hs hZ=>cAt)<|jp (vs:=[.string (bs [115,109,121,116,104]),zI 1,zI 1,zI 2]) [] [] (fun aG hs hZ=>cAt)<|jp (vs:=[.string (bs [115,109,121,116,104]),zI 0,zI 2,zI 0]) [] [] (fun aG hs hZ=>cAt)<|jp (vs:=[.string (bs [115,109,105,116,104]),zI 1,zI 1,zI (-1)]) [] [] (fun aG hs hZ=>cAt)<|jp (vs:=[.string (bs [98,101,110]),zI 0,zI 1,zI 4]) [] [] (fun aG hs hZ=>cAt)<|I5 [3,7,11] ⟨fun z1 t2 nK=>?_,fun z4 t5 V5=>?_,fun z7 t8 Sn=>?_,trivial⟩
 ·
  refine jn fun q6=>eG nK (zN 1 12)<|I5 [7,11] ⟨fun z10 t11 C7=>?_,fun z13 t14 Wd=>?_,trivial⟩
  ·
   refine jn fun vy=>eG C7 (zN 1 13)<|aS 11 fun aqi aqD EU=>jn fun BW=>eG EU (zN 1 14)<|zD 1<|aS 14 fun Xm Xw C6=>jd 1 [14]<|fW C6<|zD 2<|zR (.agg ⟨Eb nS Jl b9 z0 q6 vy BW n⟩) [14] [6,8,7,4,5,13,10,12,11,2,1,0] (Iq nS OH FC Jl b29 b9 z0 wX IN q6 vy BW) ⟨_,rfl,fun _ hk=>Mo hk,Mp _ _ _ _ _ _ _ _⟩
  refine jn fun BW=>eG Wd (zN 1 13)<|aS 7 fun adE aep N3=>jn fun vy=>eG N3 (zN 1 14)<|zD 1<|aS 14 fun aqh aqC Wc=>jd 1 [14]<|fW Wc<|zD 2<|zR (.agg ⟨Eb nS Jl b9 z0 q6 vy BW n⟩) [14] [6,8,7,4,5,13,10,12,11,2,0,1] (Iq nS OH FC Jl b29 b9 z0 wX IN q6 vy BW) ⟨_,rfl,fun _ hk=>Mo hk,Mp _ _ _ _ _ _ _ _⟩
 ·
  refine jn fun vy=>eG V5 (zN 1 12)<|I5 [3,11] ⟨fun z20 t21 aiY=>?_,fun z23 t24 V9=>?_,trivial⟩
  ·
   refine jn fun q6=>eG aiY (zN 1 13)<|aS 11 fun adD aeo ET=>jn fun BW=>eG ET (zN 1 14)<|zD 1<|aS 14 fun Pu PW C5=>jd 1 [14]<|fW C5<|zD 2<|zR (.agg ⟨Eb nS Jl b9 z0 q6 vy BW n⟩) [14] [6,8,7,4,5,13,10,12,11,1,2,0] (Iq nS OH FC Jl b29 b9 z0 wX IN q6 vy BW) ⟨_,rfl,fun _ hk=>Mo hk,Mp _ _ _ _ _ _ _ _⟩
  refine jn fun BW=>eG V9 (zN 1 13)<|aS 3 fun Pt PV HU=>jn fun q6=>eG HU (zN 1 14)<|zD 1<|aS 14 fun Ps PU HT=>jd 1 [14]<|fW HT<|zD 2<|zR (.agg ⟨Eb nS Jl b9 z0 q6 vy BW n⟩) [14] [6,8,7,4,5,13,10,12,11,0,2,1] (Iq nS OH FC Jl b29 b9 z0 wX IN q6 vy BW) ⟨_,rfl,fun _ hk=>Mo hk,Mp _ _ _ _ _ _ _ _⟩
 refine jn fun BW=>eG Sn (zN 1 12)<|I5 [3,7] ⟨fun z30 t31 V7=>?_,fun z33 t34 aiW=>?_,trivial⟩
 ·
  refine jn fun q6=>eG V7 (zN 1 13)<|aS 7 fun adA ael N2=>jn fun vy=>eG N2 (zN 1 14)<|zD 1<|aS 14 fun adz aek V6=>jd 1 [14]<|fW V6<|zD 2<|zR (.agg ⟨Eb nS Jl b9 z0 q6 vy BW n⟩) [14] [6,8,7,4,5,13,10,12,11,1,0,2] (Iq nS OH FC Jl b29 b9 z0 wX IN q6 vy BW) ⟨_,rfl,fun _ hk=>Mo hk,Mp _ _ _ _ _ _ _ _⟩
 refine jn fun vy=>eG aiW (zN 1 13)<|aS 3 fun aqf aqA aiU=>jn fun q6=>eG aiU (zN 1 14)<|zD 1<|aS 14 fun aqe aqz aiT=>jd 1 [14]<|fW aiT<|zD 2<|zR (.agg ⟨Eb nS Jl b9 z0 q6 vy BW n⟩) [14] [6,8,7,4,5,13,10,12,11,0,1,2] (Iq nS OH FC Jl b29 b9 z0 wX IN q6 vy BW) ⟨_,rfl,fun _ hk=>Mo hk,Mp _ _ _ _ _ _ _ _⟩
instance (nc nh i:Nat)(x:cA):Decidable (gH nc nh i x):=by unfold gH;infer_instance
instance (w:ByteArray):Decidable (Script w):=by unfold Script;infer_instance
theorem WZ{p:Nat→α→Prop}{l:List α}(h:∀i (hi:i <l.length),p i l[i]):∀(i:Nat) (x:α),l[i]?=some x→p i x:=fun i x hx=>by
 obtain⟨h1,rfl⟩:=List.getElem?_eq_some_iff.1 hx
 exact h i h1
theorem Ip:∀(i:Nat) (x:cA),Dl[i]?=some x→gH 4 6 i x:=WZ (by decide)
theorem WM:∀(i:Nat) (x:cA),Dl[i]?=some x→Aw x.word=true:=WZ (of_decide_eq_true (by kernel_rfl))
theorem aks:∀(i:Nat) (x:bN),WN[i]?=some x→Aw x.name=true∧ -1≤x.under∧x.under <i:=WZ (of_decide_eq_true (by kernel_rfl))
def awL(hd:List cA)(i:Int):Bool:=decide (i= -1)||(decide (0≤i)&&match hd[i.toNat]? with
 |some x=>decide (0≤x.cls)
 |none=>false)
theorem fe{i:Int}(h:awL hd i=true):nX hd i:=by
 simp only[awL,Bool.or_eq_true,Bool.and_eq_true,decide_eq_true_eq] at h
 rcases h with h| ⟨h1,h2⟩
 ·exact .inl h
 split at h2
 ·rename_i x hx;exact .inr ⟨h1,x,hx,of_decide_eq_true h2⟩
 cases h2
def QC(p:aB):Bool:=decide (((1≤p.name.size∧p.name.size≤6)∧Script p.name)∧(0≤p.st∧p.st≤1)∧p.bold=false)&&awL Dl p.head
theorem Nk{p:aB}(h:QC p=true):FE Dl p:=by
 simp only[QC,Bool.and_eq_true,decide_eq_true_eq] at h
 exact⟨h.1.1,fe h.2,h.1.2⟩
theorem afq{p:aB}(h:QC p=true):rK p.name∧nX Dl p.head:=by
 have:=Nk h
 exact⟨⟨this.1.1,this.1.2⟩,this.2.1⟩
theorem ZU:∀p∈Ow,QC p=true:=by decide
theorem ZV:∀p∈Ox,QC p=true:=by decide
abbrev Ec(n:Int)(fs:List bM):aC:={aV n with facts:=fs}
theorem asq{n:Int}(h:0≤n∧n≤4)(hf:fs.length≤3)(h1:∀x∈fs,(0≤x.a∧x.a <3)∧(0≤x.b∧x.b <3))(h2:fs.Pairwise fun x y=>¬(x.a=y.a∧x.b=y.b)):jz (Ec n fs) where
 oT:=⟨rfl,by simp,by simp[BI],by simp[am6]⟩
 ways:=⟨(by decide:(1:Nat)≤1),by simp[jA]⟩
 c8:=⟨(by decide:(0:Nat) <4∧4≤6),(by decide:(6:Nat)≤6),Ip⟩
 rules:=(by decide:(1:Nat)≤4)
 before:=⟨(by decide:(3:Nat)≤4),fun p hp=>⟨Nk (ZU p hp),by
  simp only[Ow,List.mem_cons,List.not_mem_nil,or_false] at hp
  rcases hp with rfl|rfl|rfl
  ·exact⟨_,rfl,by simp⟩
  ·exact⟨_,rfl,by simp⟩
  exact⟨_,rfl,by simp⟩⟩⟩
 after:=⟨(by decide:(3:Nat)≤4),fun p hp=>⟨Nk (ZV p hp),by
  simp only[Ox,List.mem_cons,List.not_mem_nil,or_false] at hp
  rcases hp with rfl|rfl|rfl<;>decide⟩⟩
 ug:=⟨(by decide:(0:Int)≤1∧(1:Int)≤4),(by decide:(0:Int)≤1∧(1:Int)≤4),h⟩
 facts:=⟨by show fs.length≤4;omega,h1⟩
 apart:=h2
theorem asp{n:Int}(hf:fs.length≤3)(h1:∀x∈fs,(0≤x.a∧x.a <3)∧(0≤x.b∧x.b <3)):ee (Ec n fs) where
 rules:=⟨(by decide:(1:Nat)≤4),by
  intro r hr
  rw[List.mem_singleton] at hr;subst hr
  have e:XO ⟨bs [121],bs [105]⟩=true:=by kernel_rfl
  simp only[XO,Bool.and_eq_true,Nat.ble_eq,Bool.not_eq_true'] at e
  exact⟨e.1,e.2.1,G7 e.2.2.1,G7 e.2.2.2.1,e.2.2.2.2⟩⟩
 before:=⟨(by decide:(3:Nat)≤4),fun p hp=>afq (ZU p hp)⟩
 after:=⟨(by decide:(3:Nat)≤4),fun p hp=>afq (ZV p hp)⟩
 c8:=⟨(by decide:(0:Nat) <4∧4≤6),(by decide:(6:Nat)≤6),aks,by simp only[AB];decide,fun i x hx=>⟨WM i x hx,Ip i x hx⟩,by simp only[AB,P8];decide⟩
 facts:=⟨by show fs.length≤4;omega,h1⟩
theorem aIx{v0 v1 v3 v4 v5 v6 v7 vb:Value}{fa fb:Option Addr}{fn fd:Nat}{g0 g1 g2:Int}(hs:∀v∈[v0,v1,(.slice fa 0 fc),v3,v4,v5,v6,v7,zI g0,zI g1,zI g2,(.slice fb fn fd)],single v=true):du zT 52 [.agg ⟨[v0,v1,(.slice fa 0 fc),v3,v4,v5,v6,v7,zI g0,zI g1,zI g2,vb]⟩,(.slice fb fn fd)] ro (.agg ⟨[v0,v1,(.slice fa 0 fc),v3,v4,v5,v6,v7,zI g0,zI g1,zI g2,(.slice fb fn fd)]⟩):=by
 refine zE<|zD 2<|jn fun b2=>jn fun b4=>jd 10 [1,1]<|jsx 0 b4 0 zO [v0,v1,(.slice fa 0 fc),v3,v4,v5,v6,v7,zI g0,zI g1,zI g2,(.slice fb fn fd)] 38 hs rfl<|zD 2<|zR (.agg ⟨[v0,v1,(.slice fa 0 fc),v3,v4,v5,v6,v7,zI g0,zI g1,zI g2,(.slice fb fn fd)]⟩) [0] [] [] ⟨rfl,rfl⟩
end Go.L
