/- Part 10 of the proof. -/
import Derived.Test.YtknkndglfcfhkaaGreatDoorV9
set_option maxRecDepth 100000
set_option linter.all false
namespace Go.L
open Go Go.Conc Go.Proofs
variable {ro aG:Nat→Option Obj} {ways:List (List aO)} {ys xs:List Int} {K:aB} {l:List Value} {k n b fc b1 i ck bl b2 b3 Js ck0 r1 en ec:Nat} {Stop:Cells→Prop} {α:Type} {x f y j:Int} {vS vT:Value} {seen:List Nat} {hd:List cy} {fs:List cu} {Z B LE:Cells}
def ayQ(S:List (List ai))(c:aO):List (an×an):=
 if c.k=1 then adK c.st (S[c.st.toNat]?.getD []) else if c.k=2 then Kv c.st (S[c.st.toNat]?.getD []) else LQ c.st c.ot (S[c.st.toNat]?.getD []) (rO (S[c.ot.toNat]?.getD []))
def yY(S:List (List ai))(c:aO)(x:an):an:=gU (ayQ S c) x
theorem pY{l:List α}(h:l.length=2):∃a b,l=[a,b]:=by
 match l,h with
 | [a,b],_=>exact⟨a,b,rfl⟩
theorem Sm:dv zT 209 [] ro (.agg ⟨[.nilFunc,.func (.func 230) ⟨[]⟩ ⟨[]⟩,.func (.func 231) ⟨[]⟩ ⟨[]⟩,.func (.func 232) ⟨[]⟩ ⟨[]⟩,.func (.func 233) ⟨[]⟩ ⟨[]⟩,.func (.func 234) ⟨[]⟩ ⟨[]⟩,.func (.func 235) ⟨[]⟩ ⟨[]⟩,.func (.func 236) ⟨[]⟩ ⟨[]⟩]⟩):=by
 refine zE<|zD 2<|jn fun b0=>jd 7 [0]<|zR (.agg ⟨[.nilFunc,.func (.func 230) ⟨[]⟩ ⟨[]⟩,.func (.func 231) ⟨[]⟩ ⟨[]⟩,.func (.func 232) ⟨[]⟩ ⟨[]⟩,.func (.func 233) ⟨[]⟩ ⟨[]⟩,.func (.func 234) ⟨[]⟩ ⟨[]⟩,.func (.func 235) ⟨[]⟩ ⟨[]⟩,.func (.func 236) ⟨[]⟩ ⟨[]⟩]⟩) [0] [] [] ⟨rfl,rfl⟩
theorem aIg{v:Value}{S:List (List ai)}(hS:cX ro v S)(hO:eV S):dO zT 176 [.agg ⟨[v]⟩,.agg ⟨[zI 1,zI 0,zI 0,zI 0,zI 0,zI 0,zI 0]⟩] ro [] (fun r Y=>∃rm F LM Z,r= .tuple ⟨[.map (some rm),zI 0]⟩∧Y=LM++Z∧jQ rm oQ F LM∧F.map (·.1)=bG S∧MV Z F (yY S ⟨1,0,0,0,0,0,0⟩)):=by
 obtain⟨p,q,rfl⟩:=pY hO.two
 have ym:=hS
 obtain⟨ws,ht,di⟩:=hS
 obtain⟨w1,w2,rfl⟩:=pY (di.len.trans hO.two)
 obtain⟨eS,AI,AG,dW,rfl,AH,sA,sw⟩:=ht
 refine zE<|zD 2<|jn fun b2=>jn fun b3=>jd 8 [0]<|jp (vs:=[zI 1,zI 1,zI 7]) [] [] (fun aI hs hZ=>Bb)<|jd 18 [1,0]<|jp (vs:=[zI 0,zI 0,zI 1]) [] [] (fun aI hs hZ=>Bb)<|jd 70 [0,0,0,0,0,0]<|jne GP (wN 0 0 0 0)<|zD 3<|js 73 (!(0==0&&(0==0&&true))) (fun h1=>?_) (fun h1=>?_)
 ·
  have fW:=h1
  try simp only[zB] at fW
  exact absurd fW (by decide)
 have fW:=h1
 try simp only[zB] at fW
 refine jd 6 [0]<|jne GP (wN 0 0 0 0)<|zD 3<|js 82 (!(0==0&&(0==0&&true))) (fun h2=>?_) (fun h2=>?_)
 ·
  exact absurd h2 (by decide)
 refine jd 5 [1]<|jc (vs:=[.agg ⟨[.slice eS 2 dW]⟩]) [] (Ml (ym) hO) ?_
 rintro _ _ ⟨rm,F,LM,Z,rfl,rfl,hmM,hkM,hMM⟩
 refine jg 0 [.l LM,.l Z]<|jd 10 [2,3,2]<|jp [] [] (fun aI hs hZ=>Sm)<|zD 1<|aV 7 fun BU B0 Ah=>jc (vs:=[.agg ⟨[.slice eS 2 dW]⟩,.agg ⟨[zI 1,zI 0,zI 0,zI 0,zI 0,zI 0,zI 0]⟩,(.map (some rm))]) [0,1] (Zd (s:=0) ym hO rfl hmM hkM hMM) ?_
 rintro _ _ ⟨F2,OX,Z2,rfl,rfl,Ft,iQ,hM2⟩
 refine jg 0 [.l OX,.l Z2]<|gM Ah [[2]]<|zD 16<|zR (.tuple ⟨[(.map (some rm)),zI 0]⟩) [] [0,1] (OX++Z2) ⟨rm,F2,OX,Z2,rfl,rfl,Ft,iQ,hM2⟩
theorem aIf{v:Value}{S:List (List ai)}(hS:cX ro v S)(hO:eV S):dO zT 176 [.agg ⟨[v]⟩,.agg ⟨[zI 2,zI 0,zI 0,zI 0,zI 0,zI 0,zI 0]⟩] ro [] (fun r Y=>∃rm F LM Z,r= .tuple ⟨[.map (some rm),zI 0]⟩∧Y=LM++Z∧jQ rm oQ F LM∧F.map (·.1)=bG S∧MV Z F (yY S ⟨2,0,0,0,0,0,0⟩)):=by
 obtain⟨p,q,rfl⟩:=pY hO.two
 have ym:=hS
 obtain⟨ws,ht,di⟩:=hS
 obtain⟨w1,w2,rfl⟩:=pY (di.len.trans hO.two)
 obtain⟨eS,AI,AG,dW,rfl,AH,sA,sw⟩:=ht
 refine zE<|zD 2<|jn fun b2=>jn fun b3=>jd 8 [0]<|jp (vs:=[zI 2,zI 1,zI 7]) [] [] (fun aI hs hZ=>Bb)<|jd 18 [1,0]<|jp (vs:=[zI 0,zI 0,zI 1]) [] [] (fun aI hs hZ=>Bb)<|jd 70 [0,0,0,0,0,0]<|jne GP (wN 0 0 0 0)<|zD 3<|js 73 (!(0==0&&(0==0&&true))) (fun h1=>?_) (fun h1=>?_)
 ·
  have fW:=h1
  try simp only[zB] at fW
  exact absurd fW (by decide)
 have fW:=h1
 try simp only[zB] at fW
 refine jd 6 [0]<|jne GP (wN 0 0 0 0)<|zD 3<|js 82 (!(0==0&&(0==0&&true))) (fun h2=>?_) (fun h2=>?_)
 ·
  exact absurd h2 (by decide)
 refine jd 5 [1]<|jc (vs:=[.agg ⟨[.slice eS 2 dW]⟩]) [] (Ml (ym) hO) ?_
 rintro _ _ ⟨rm,F,LM,Z,rfl,rfl,hmM,hkM,hMM⟩
 refine jg 0 [.l LM,.l Z]<|jd 10 [2,3,2]<|jp [] [] (fun aI hs hZ=>Sm)<|zD 1<|aV 7 fun BU B0 Ah=>jc (vs:=[.agg ⟨[.slice eS 2 dW]⟩,.agg ⟨[zI 2,zI 0,zI 0,zI 0,zI 0,zI 0,zI 0]⟩,(.map (some rm))]) [0,1] (Sk (s:=0) ym hO rfl hmM hkM hMM) ?_
 rintro _ _ ⟨F2,OX,Z2,rfl,rfl,Ft,iQ,hM2⟩
 refine jg 0 [.l OX,.l Z2]<|gM Ah [[2]]<|zD 16<|zR (.tuple ⟨[(.map (some rm)),zI 0]⟩) [] [0,1] (OX++Z2) ⟨rm,F2,OX,Z2,rfl,rfl,Ft,iQ,hM2⟩
theorem aIe{v:Value}{S:List (List ai)}(hS:cX ro v S)(hO:eV S):dO zT 176 [.agg ⟨[v]⟩,.agg ⟨[zI 1,zI 1,zI 0,zI 0,zI 0,zI 0,zI 0]⟩] ro [] (fun r Y=>∃rm F LM Z,r= .tuple ⟨[.map (some rm),zI 0]⟩∧Y=LM++Z∧jQ rm oQ F LM∧F.map (·.1)=bG S∧MV Z F (yY S ⟨1,1,0,0,0,0,0⟩)):=by
 obtain⟨p,q,rfl⟩:=pY hO.two
 have ym:=hS
 obtain⟨ws,ht,di⟩:=hS
 obtain⟨w1,w2,rfl⟩:=pY (di.len.trans hO.two)
 obtain⟨eS,AI,AG,dW,rfl,AH,sA,sw⟩:=ht
 refine zE<|zD 2<|jn fun b2=>jn fun b3=>jd 8 [0]<|jp (vs:=[zI 1,zI 1,zI 7]) [] [] (fun aI hs hZ=>Bb)<|jd 18 [1,0]<|jp (vs:=[zI 1,zI 0,zI 1]) [] [] (fun aI hs hZ=>Bb)<|jd 70 [0,0,0,0,0,0]<|jne GP (wN 0 0 0 0)<|zD 3<|js 73 (!(0==0&&(0==0&&true))) (fun h1=>?_) (fun h1=>?_)
 ·
  have fW:=h1
  try simp only[zB] at fW
  exact absurd fW (by decide)
 have fW:=h1
 try simp only[zB] at fW
 refine jd 6 [0]<|jne GP (wN 0 0 0 0)<|zD 3<|js 82 (!(0==0&&(0==0&&true))) (fun h2=>?_) (fun h2=>?_)
 ·
  exact absurd h2 (by decide)
 refine jd 5 [1]<|jc (vs:=[.agg ⟨[.slice eS 2 dW]⟩]) [] (Ml (ym) hO) ?_
 rintro _ _ ⟨rm,F,LM,Z,rfl,rfl,hmM,hkM,hMM⟩
 refine jg 0 [.l LM,.l Z]<|jd 10 [2,3,2]<|jp [] [] (fun aI hs hZ=>Sm)<|zD 1<|aV 7 fun BU B0 Ah=>jc (vs:=[.agg ⟨[.slice eS 2 dW]⟩,.agg ⟨[zI 1,zI 1,zI 0,zI 0,zI 0,zI 0,zI 0]⟩,(.map (some rm))]) [0,1] (Zd (s:=1) ym hO rfl hmM hkM hMM) ?_
 rintro _ _ ⟨F2,OX,Z2,rfl,rfl,Ft,iQ,hM2⟩
 refine jg 0 [.l OX,.l Z2]<|gM Ah [[2]]<|zD 16<|zR (.tuple ⟨[(.map (some rm)),zI 0]⟩) [] [0,1] (OX++Z2) ⟨rm,F2,OX,Z2,rfl,rfl,Ft,iQ,hM2⟩
theorem aId{v:Value}{S:List (List ai)}(hS:cX ro v S)(hO:eV S):dO zT 176 [.agg ⟨[v]⟩,.agg ⟨[zI 2,zI 1,zI 0,zI 0,zI 0,zI 0,zI 0]⟩] ro [] (fun r Y=>∃rm F LM Z,r= .tuple ⟨[.map (some rm),zI 0]⟩∧Y=LM++Z∧jQ rm oQ F LM∧F.map (·.1)=bG S∧MV Z F (yY S ⟨2,1,0,0,0,0,0⟩)):=by
 obtain⟨p,q,rfl⟩:=pY hO.two
 have ym:=hS
 obtain⟨ws,ht,di⟩:=hS
 obtain⟨w1,w2,rfl⟩:=pY (di.len.trans hO.two)
 obtain⟨eS,AI,AG,dW,rfl,AH,sA,sw⟩:=ht
 refine zE<|zD 2<|jn fun b2=>jn fun b3=>jd 8 [0]<|jp (vs:=[zI 2,zI 1,zI 7]) [] [] (fun aI hs hZ=>Bb)<|jd 18 [1,0]<|jp (vs:=[zI 1,zI 0,zI 1]) [] [] (fun aI hs hZ=>Bb)<|jd 70 [0,0,0,0,0,0]<|jne GP (wN 0 0 0 0)<|zD 3<|js 73 (!(0==0&&(0==0&&true))) (fun h1=>?_) (fun h1=>?_)
 ·
  have fW:=h1
  try simp only[zB] at fW
  exact absurd fW (by decide)
 have fW:=h1
 try simp only[zB] at fW
 refine jd 6 [0]<|jne GP (wN 0 0 0 0)<|zD 3<|js 82 (!(0==0&&(0==0&&true))) (fun h2=>?_) (fun h2=>?_)
 ·
  exact absurd h2 (by decide)
 refine jd 5 [1]<|jc (vs:=[.agg ⟨[.slice eS 2 dW]⟩]) [] (Ml (ym) hO) ?_
 rintro _ _ ⟨rm,F,LM,Z,rfl,rfl,hmM,hkM,hMM⟩
 refine jg 0 [.l LM,.l Z]<|jd 10 [2,3,2]<|jp [] [] (fun aI hs hZ=>Sm)<|zD 1<|aV 7 fun BU B0 Ah=>jc (vs:=[.agg ⟨[.slice eS 2 dW]⟩,.agg ⟨[zI 2,zI 1,zI 0,zI 0,zI 0,zI 0,zI 0]⟩,(.map (some rm))]) [0,1] (Sk (s:=1) ym hO rfl hmM hkM hMM) ?_
 rintro _ _ ⟨F2,OX,Z2,rfl,rfl,Ft,iQ,hM2⟩
 refine jg 0 [.l OX,.l Z2]<|gM Ah [[2]]<|zD 16<|zR (.tuple ⟨[(.map (some rm)),zI 0]⟩) [] [0,1] (OX++Z2) ⟨rm,F2,OX,Z2,rfl,rfl,Ft,iQ,hM2⟩
theorem aIc{v:Value}{S:List (List ai)}(hS:cX ro v S)(hO:eV S):dO zT 176 [.agg ⟨[v]⟩,.agg ⟨[zI 4,zI 1,zI 0,zI 0,zI 0,zI 0,zI 0]⟩] ro [] (fun r Y=>∃rm F LM Z,r= .tuple ⟨[.map (some rm),zI 0]⟩∧Y=LM++Z∧jQ rm oQ F LM∧F.map (·.1)=bG S∧MV Z F (yY S ⟨4,1,0,0,0,0,0⟩)):=by
 obtain⟨p,q,rfl⟩:=pY hO.two
 have ym:=hS
 obtain⟨ws,ht,di⟩:=hS
 obtain⟨w1,w2,rfl⟩:=pY (di.len.trans hO.two)
 obtain⟨eS,AI,AG,dW,rfl,AH,sA,sw⟩:=ht
 refine zE<|zD 2<|jn fun b2=>jn fun b3=>jd 8 [0]<|jp (vs:=[zI 4,zI 1,zI 7]) [] [] (fun aI hs hZ=>Bb)<|jd 18 [1,0]<|jp (vs:=[zI 1,zI 0,zI 1]) [] [] (fun aI hs hZ=>Bb)<|jd 33 [0,0,0,0]<|jp (vs:=[zI 0,zI 0,zI 1]) [] [] (fun aI hs hZ=>Bb)<|jd 36 [0,0,0]<|jne GP (wN 0 0 0 0)<|zD 3<|js 73 (!(0==0&&(0==0&&true))) (fun h1=>?_) (fun h1=>?_)
 ·
  have fW:=h1
  try simp only[zB] at fW
  exact absurd fW (by decide)
 have fW:=h1
 try simp only[zB] at fW
 refine jd 6 [0]<|jne GP (wN 0 0 0 0)<|zD 3<|js 82 (!(0==0&&(0==0&&true))) (fun h2=>?_) (fun h2=>?_)
 ·
  exact absurd h2 (by decide)
 refine jd 5 [1]<|jc (vs:=[.agg ⟨[.slice eS 2 dW]⟩]) [] (Ml (ym) hO) ?_
 rintro _ _ ⟨rm,F,LM,Z,rfl,rfl,hmM,hkM,hMM⟩
 refine jg 0 [.l LM,.l Z]<|jd 10 [2,3,2]<|jp [] [] (fun aI hs hZ=>Sm)<|zD 1<|aV 7 fun BU B0 Ah=>jc (vs:=[.agg ⟨[.slice eS 2 dW]⟩,.agg ⟨[zI 4,zI 1,zI 0,zI 0,zI 0,zI 0,zI 0]⟩,(.map (some rm))]) [0,1] (apf (s:=1) (o:=0) ym hO rfl hmM hkM hMM rfl) ?_
 rintro _ _ ⟨F2,OX,Z2,rfl,rfl,Ft,iQ,hM2⟩
 refine jg 0 [.l OX,.l Z2]<|gM Ah [[2]]<|zD 16<|zR (.tuple ⟨[(.map (some rm)),zI 0]⟩) [] [0,1] (OX++Z2) ⟨rm,F2,OX,Z2,rfl,rfl,Ft,iQ,hM2⟩
def abc(n:Nat):Int:=if n=0 then 0 else if n <2 then 1 else if n <4 then 2 else if n <8 then 3 else 4
theorem ayF:∀ {n:Nat},n≤12→dv zT 161 [zU (n:Int)] ro (zI (abc n))
 |0,_=>by refine bB au [] [] ba (zD 35 (ja 0 (by decide) (zD 3 ?_)));exact aL q0 (zI 0) [] [] [] (Sub.refl _) ⟨_,_,rfl,rfl,rfl,rfl⟩
 |1,_=>by refine bB au [] [] ba (zD 35 (ja 1 (by decide) (zD 3 ?_)));exact aL q0 (zI 1) [] [] [] (Sub.refl _) ⟨_,_,rfl,rfl,rfl,rfl⟩
 |2,_=>by refine bB au [] [] ba (zD 35 (ja 2 (by decide) (zD 3 ?_)));exact aL q0 (zI 2) [] [] [] (Sub.refl _) ⟨_,_,rfl,rfl,rfl,rfl⟩
 |3,_=>by refine bB au [] [] ba (zD 35 (ja 2 (by decide) (zD 3 ?_)));exact aL q0 (zI 2) [] [] [] (Sub.refl _) ⟨_,_,rfl,rfl,rfl,rfl⟩
 |4,_=>by refine bB au [] [] ba (zD 35 (ja 3 (by decide) (zD 3 ?_)));exact aL q0 (zI 3) [] [] [] (Sub.refl _) ⟨_,_,rfl,rfl,rfl,rfl⟩
 |5,_=>by refine bB au [] [] ba (zD 35 (ja 3 (by decide) (zD 3 ?_)));exact aL q0 (zI 3) [] [] [] (Sub.refl _) ⟨_,_,rfl,rfl,rfl,rfl⟩
 |6,_=>by refine bB au [] [] ba (zD 35 (ja 3 (by decide) (zD 3 ?_)));exact aL q0 (zI 3) [] [] [] (Sub.refl _) ⟨_,_,rfl,rfl,rfl,rfl⟩
 |7,_=>by refine bB au [] [] ba (zD 35 (ja 3 (by decide) (zD 3 ?_)));exact aL q0 (zI 3) [] [] [] (Sub.refl _) ⟨_,_,rfl,rfl,rfl,rfl⟩
 |8,_=>by refine bB au [] [] ba (zD 35 (ja 4 (by decide) (zD 3 ?_)));exact aL q0 (zI 4) [] [] [] (Sub.refl _) ⟨_,_,rfl,rfl,rfl,rfl⟩
 |9,_=>by refine bB au [] [] ba (zD 35 (ja 4 (by decide) (zD 3 ?_)));exact aL q0 (zI 4) [] [] [] (Sub.refl _) ⟨_,_,rfl,rfl,rfl,rfl⟩
 |10,_=>by refine bB au [] [] ba (zD 35 (ja 4 (by decide) (zD 3 ?_)));exact aL q0 (zI 4) [] [] [] (Sub.refl _) ⟨_,_,rfl,rfl,rfl,rfl⟩
 |11,_=>by refine bB au [] [] ba (zD 35 (ja 4 (by decide) (zD 3 ?_)));exact aL q0 (zI 4) [] [] [] (Sub.refl _) ⟨_,_,rfl,rfl,rfl,rfl⟩
 |12,_=>by refine bB au [] [] ba (zD 35 (ja 4 (by decide) (zD 3 ?_)));exact aL q0 (zI 4) [] [] [] (Sub.refl _) ⟨_,_,rfl,rfl,rfl,rfl⟩
 |n+13,h=>absurd h (by omega)
theorem adk(h:n≤1000):Value.int .u64 (IntKind.u64.wrap (n:Int))= zU (n:Int):=by
 rw[sE .u64 rfl _ (by omega) (by simp[IntKind.bits];omega)]
def OP(v:Value)(xs:List ai)(Y:Cells):Prop:=∃ys,ys.Perm xs∧ax v 2 79 cL ys Y
theorem ayG(h:n≤12):dv zT 114 [zU (n:Int)] ro (zI (abc n)):=by
 refine zE<|zD 10<|jp (vs:=[zU (n:Int)]) [] [] (fun aI hs hZ=>(ayF h))<|zD 3<|zX (zI (abc n)) ⟨rfl,rfl⟩
theorem aUe{v:Value}{xs:List ai}{L:Cells}{a b:Int}(ho:ax v 2 79 cL xs L)(hN:xs.length≤1000)(zh:0≤a∧a≤b∧b≤xs.length):dO zT 255 [v,zI a,zI b,.func (.func 184) ⟨[]⟩ ⟨[]⟩] ro L (fun r Y=>OP v xs Y):=by
 refine zC [.l L]<|zD 3<|ja (a+1) (by omega)<|zD 3<|dP [1,0,0] [] (fun(zz:Int×(List ai)×Cells)=>[(0,v),(1,zI a),(2,zI b),(3,.func (.func 184) ⟨[]⟩ ⟨[]⟩),(8,zI zz.1)]) (fun zz=>[.l zz.2.2]) (fun zz=>(a+1≤zz.1)∧ax v 2 79 cL zz.2.1 zz.2.2∧zz.2.1.Perm xs) (fun zz=>(b-zz.1).toNat) (⟨(a+1),xs,L⟩) ⟨by dsimp only;omega,ho,.refl _⟩ [0] ?_
 rintro⟨i,ys,L⟩ hI K1 bH rest
 dsimp only at hI
 have YA:=hI.2.2.length_eq
 refine zD 7<|zJ 14 (i <b) (fun h1=>?_) fun h1=>?_
 ·
  refine zD 10<|dP [1,0,0,1,0,0,1,0,0] [K1] (fun(zz:Int×(List ai)×Cells)=>[(0,v),(1,zI a),(2,zI b),(3,.func (.func 184) ⟨[]⟩ ⟨[]⟩),(8,zI i),(9,zI zz.1)]) (fun zz=>[.l zz.2.2]) (fun zz=>(a≤zz.1∧zz.1≤i)∧ax v 2 79 cL zz.2.1 zz.2.2∧zz.2.1.Perm xs) (fun zz=>(zz.1-a).toNat) (⟨i,ys,L⟩) ⟨by dsimp only;omega,hI.2⟩ [0] ?_
  rintro⟨j,ys,L⟩ hJ K2 mr rest
  dsimp only at hJ
  have YA:=hJ.2.2.length_eq
  refine zD 7<|js 3 (decide (j>a)) (fun h2=>?_) (fun h2=>?_)
  ·
   have mv:=h2
   replace mv:=of_decide_eq_true mv
   refine zD 3 ?_
   obtain⟨yB,lv⟩:=zG ys (j.toNat) (by first|omega| (simp only[List.length_set];omega))
   refine qi j 2 hJ.2.1 lv (Int.toNat_of_nonneg (show 0≤j∧j <((ys).length:Int) from (by first|omega| (simp only[List.length_set];omega))).1).symm (fun n8 aiD=>?_)
   refine pg 0 [0] L (fun s _ hZ=>cK hJ.2.1 aiD hZ lv)<|zD 2<|ja (j-1) (by omega) ?_
   obtain⟨od,iW⟩:=zG ys ((j-1).toNat) (by first|omega| (simp only[List.length_set];omega))
   refine qi (j-1) 2 hJ.2.1 iW (Int.toNat_of_nonneg (show 0≤(j-1)∧(j-1) <((ys).length:Int) from (by first|omega| (simp only[List.length_set];omega))).1).symm (fun b30 VF=>?_)
   refine pg 0 [0] L (fun s _ hZ=>cK hJ.2.1 VF hZ iW)<|aV 14 fun pW pZ oU=>jp (vs:=[.agg ⟨[zI yB.n,zI yB.l]⟩,.agg ⟨[zI od.n,zI od.l]⟩]) [] [] (fun aI hs hZ=>(ar7 (x:=yB) (y:=od)))<|eH oU [0]<|zD 3<|zJ 34 ((aca yB od) <0) (fun h4=>?_) fun h4=>?_
   ·
    refine zD 9<|ja (j-1) (by omega)<|zD 2<|ja (j-1) (by omega) ?_
    obtain⟨xR,ED⟩:=zG ys ((j-1).toNat) (by first|omega| (simp only[List.length_set];omega))
    refine qi (j-1) 2 hJ.2.1 ED (Int.toNat_of_nonneg (show 0≤(j-1)∧(j-1) <((ys).length:Int) from (by first|omega| (simp only[List.length_set];omega))).1).symm (fun b45 aiC=>?_)
    refine pg 0 [0] L (fun s _ hZ=>cK hJ.2.1 aiC hZ ED)<|zD 2 ?_
    obtain⟨Ju,EC⟩:=zG ys (j.toNat) (by first|omega| (simp only[List.length_set];omega))
    refine qi j 2 hJ.2.1 EC (Int.toNat_of_nonneg (show 0≤j∧j <((ys).length:Int) from (by first|omega| (simp only[List.length_set];omega))).1).symm (fun b49 aiB=>?_)
    refine pg 0 [0] L (fun s _ hZ=>cK hJ.2.1 aiB hZ EC) ?_
    obtain⟨x51,EB⟩:=zG ys (j.toNat) (by first|omega| (simp only[List.length_set];omega))
    refine qi j 2 hJ.2.1 EB (Int.toNat_of_nonneg (show 0≤j∧j <((ys).length:Int) from (by first|omega| (simp only[List.length_set];omega))).1).symm (fun b51 aiA=>?_)
    refine aV 15 fun rI rK qu=>Tj 0 0 [zI xR.n,zI xR.l] (⟨xR.n,xR.l⟩:ai) hJ.2.1 aiA EB rfl rfl (Nat.le_of_ble_eq_true rfl) fun L6 ho7=>gM qu [] ?_
    obtain⟨x52,wq⟩:=zG ((ys.set j.toNat (⟨xR.n,xR.l⟩:ai))) ((j-1).toNat) (by first|omega| (simp only[List.length_set];omega))
    refine qi (j-1) 2 ho7 wq (Int.toNat_of_nonneg (show 0≤(j-1)∧(j-1) <(((ys.set j.toNat (⟨xR.n,xR.l⟩:ai))).length:Int) from (by first|omega| (simp only[List.length_set];omega))).1).symm (fun b52 aiz=>?_)
    refine aV 17 fun An Ay Ba=>Tj 0 0 [zI Ju.n,zI Ju.l] (⟨Ju.n,Ju.l⟩:ai) ho7 aiz wq rfl rfl (Nat.le_of_ble_eq_true rfl) fun L9 ahW=>gq Ba<|zD 3<|ja (j-1) (by omega)<|zD 2<|bI mr (⟨(j-1),((ys.set j.toNat (⟨xR.n,xR.l⟩:ai)).set ((j-1).toNat) (⟨Ju.n,Ju.l⟩:ai)),L9⟩) ⟨by dsimp only;omega,ahW,(nD EC ED).trans hJ.2.2⟩ (by dsimp only;omega) [0] (Sub.refl _)
   refine zD 4<|ja (i+1) (by omega)<|zD 2<|bI bH (⟨(i+1),ys,L⟩) ⟨by dsimp only;omega,hJ.2⟩ (by dsimp only;omega) [0] (Sub.refl _)
  have mv:=h2
  replace mv:=of_decide_eq_false mv
  refine zD 18<|ja (i+1) (by omega)<|zD 2<|bI bH (⟨(i+1),ys,L⟩) ⟨by dsimp only;omega,hJ.2⟩ (by dsimp only;omega) [0] (Sub.refl _)
 refine zD 2<|zR (.tuple ⟨[]⟩) [] [0] L ⟨ys,hI.2.2,hI.2.1⟩
theorem aUc{v:Value}{xs:List ai}{L:Cells}{lim:Int}(ho:ax v 2 79 cL xs L)(hN:xs.length≤12):dO zT 237 [v,zI 0,zI (xs.length:Int),zI lim,.func (.func 184) ⟨[]⟩ ⟨[]⟩] ro L (fun r Y=>OP v xs Y):=by
 refine zC [.l L]<|zD 9<|dP [1,1,0,0] [] (fun(zz:Nat)=>[(0,v),(1,zI 0),(2,zI (xs.length:Int)),(3,zI lim),(4,.func (.func 184) ⟨[]⟩ ⟨[]⟩),(10,.bool true),(11,.bool true)]) (fun zz=>[.l L]) (fun zz=>True) (fun zz=>zz) 0 trivial [0] ?_
 rintro z hI K1 bH rest
 refine zD 5<|ja ((xs.length:Int)-0) (by omega)<|zD 8<|zJ 25 (((xs.length:Int)-0)≤12) (fun h1=>?_) fun h1=>?_
 ·
  refine zD 7<|jc (vs:=[v,zI 0,zI (xs.length:Int),.func (.func 184) ⟨[]⟩ ⟨[]⟩]) [0] (aUe ho (by omega) (by omega)) ?_
  rintro aCk Y30 ⟨aLy,awB,CG⟩
  refine zD 2<|zR (.tuple ⟨[]⟩) [] [0] Y30 ⟨_,awB,CG⟩
 exfalso;omega
theorem ajz{v:Value}{xs:List ai}{L:Cells}(ho:ax v 2 79 cL xs L)(hN:xs.length≤12):dO zT 210 [v,.func (.func 184) ⟨[]⟩ ⟨[]⟩] ro L (fun r Y=>OP v xs Y):=by
 refine zC [.l L]<|zD 3<|DL ho<|zD 6<|je (zU (xs.length:Int)) (adk (by omega))<|jp (vs:=[zU (xs.length:Int)]) [] [] (fun aI hs hZ=>(ayG (by omega)))<|zD 1<|jc (vs:=[v,zI 0,zI (xs.length:Int),zI (abc xs.length),.func (.func 184) ⟨[]⟩ ⟨[]⟩]) [0] (aUc ho (by omega)) ?_
 rintro aCl Y13 ⟨aLA,abx,Vp⟩
 refine zD 1<|zR (.tuple ⟨[]⟩) [] [0] Y13 ⟨_,abx,Vp⟩
theorem aH8{v:Value}{xs:List an}{L:Cells}(ho:ax v 3 158 cM xs L)(hN:xs.length≤1):dO zT 212 [v,zI 0,zI (xs.length:Int),.func (.func 130) ⟨[]⟩ ⟨[]⟩] ro L (fun r Y=>ax v 3 158 cM xs Y):=by
 refine zC [.l L]<|zD 7<|dP [1,0,0] [] (fun(zz:Nat)=>[(0,v),(1,zI 0),(2,zI (xs.length:Int)),(3,.func (.func 130) ⟨[]⟩ ⟨[]⟩),(8,zI (0+1))]) (fun zz=>[.l L]) (fun zz=>True) (fun zz=>zz) 0 trivial [0] ?_
 rintro z hI K1 bH rest
 refine zD 7<|zJ 14 ((0+1) <(xs.length:Int)) (fun h1=>?_) fun h1=>?_
 ·
  exfalso;omega
 refine zD 2<|zR (.tuple ⟨[]⟩) [] [0] L ho
theorem aH3{v:Value}{xs:List an}{L:Cells}{lim:Int}(ho:ax v 3 158 cM xs L)(hN:xs.length≤1):dO zT 182 [v,zI 0,zI (xs.length:Int),zI lim,.func (.func 130) ⟨[]⟩ ⟨[]⟩] ro L (fun r Y=>ax v 3 158 cM xs Y):=by
 refine zC [.l L]<|zD 9<|dP [1,1,0,0] [] (fun(zz:Nat)=>[(0,v),(1,zI 0),(2,zI (xs.length:Int)),(3,zI lim),(4,.func (.func 130) ⟨[]⟩ ⟨[]⟩),(10,.bool true),(11,.bool true)]) (fun zz=>[.l L]) (fun zz=>True) (fun zz=>zz) 0 trivial [0] ?_
 rintro z hI K1 bH rest
 refine zD 5<|ja ((xs.length:Int)-0) (by omega)<|zD 8<|zJ 25 (((xs.length:Int)-0)≤12) (fun h1=>?_) fun h1=>?_
 ·
  refine zD 7<|jc (vs:=[v,zI 0,zI (xs.length:Int),.func (.func 130) ⟨[]⟩ ⟨[]⟩]) [0] (aH8 ho (by omega)) ?_
  rintro aCk Y30 CG
  refine zD 2<|zR (.tuple ⟨[]⟩) [] [0] Y30 CG
 exfalso;omega
theorem ayE{v:Value}{xs:List an}{L:Cells}(ho:ax v 3 158 cM xs L)(hN:xs.length≤1):dO zT 129 [v,.func (.func 130) ⟨[]⟩ ⟨[]⟩] ro L (fun r Y=>ax v 3 158 cM xs Y):=by
 refine zC [.l L]<|zD 3<|DL ho<|zD 6<|je (zU (xs.length:Int)) (adk (by omega))<|jp (vs:=[zU (xs.length:Int)]) [] [] (fun aI hs hZ=>(ayG (by omega)))<|zD 1<|jc (vs:=[v,zI 0,zI (xs.length:Int),zI (abc xs.length),.func (.func 130) ⟨[]⟩ ⟨[]⟩]) [0] (aH3 ho (by omega)) ?_
 rintro aCl Y13 Vp
 refine zD 1<|zR (.tuple ⟨[]⟩) [] [0] Y13 Vp
theorem ajD{v:Value}{xs:List an}{L:Cells}(ho:ax v 3 158 cM xs L)(hN:xs.length≤1):dO zT 131 [v] ro L (fun r Y=>v=r∧L=Y):=by
 refine zC [.l L]<|zD 8<|DL ho<|zD 2<|zJ 8 ((xs.length:Int) <2) (fun h1=>?_) fun h1=>?_
 ·
  refine zD 7<|zR (v) [] [0] L ⟨rfl,rfl⟩
 exfalso;omega
theorem Ze{v:Value}{xs:List an}(hl:bD ro v 3 cM xs)(hN:xs.length≤1):dO zT 101 [v] ro [] (fun r Y=>ax r 3 158 cM xs Y):=by
 obtain⟨fA,rQ,rP,eP,rfl,tQ,lJ,mE⟩:=hl
 refine zE<|zD 7<|jc (vs:=[.slice fA xs.length eP]) [] (aUh (show bD _ _ _ _ _ from ⟨fA,rQ,rP,eP,rfl,tQ,lJ,mE⟩) (by first|omega| (simp only[List.length_set,zM];omega))) ?_
 rintro v5 L5 ho5
 obtain⟨va5,vc5,he5⟩:=ho5.form
 subst he5
 refine zD 5<|jc (vs:=[(.slice va5 (xs).length vc5),.func (.func 130) ⟨[]⟩ ⟨[]⟩]) [0] (ayE ho5 (by omega)) ?_
 rintro rv7 Y7 ho7
 refine zD 4<|jc (vs:=[(.slice va5 (xs).length vc5)]) [0] (ajD ho7 (by omega)) ?_
 rintro _ _ ⟨rfl,rfl⟩
 refine zD 3<|zR ((.slice va5 (xs).length vc5)) [] [0] Y7 ho7
theorem MV.put{Z2:Cells}{F:List (an×Value)}{g:an→an}(h:MV Z F g){k:an}{v:Value}(hv:∀aG,Knows aG Z2→bD aG v 3 cM [g k]):MV (Z++Z2) (mg k v F) g:=by
 have h1:∀x∈mg k v F,x=(k,v)∨x∈F:=fun x hx=>by
  unfold mg at hx
  split at hx
  ·rw[Fa] at hx
   obtain⟨i,hi⟩:=List.getElem?_of_mem hx
   rw[List.getElem?_set] at hi
   split at hi
   ·split at hi
    ·cases hi;exact .inl rfl
    cases hi
   exact .inr (zL hi)
  rcases List.mem_append.1 hx with h|h
  ·exact .inr h
  exact .inl (List.mem_singleton.1 h)
 intro aG hr x hx
 rcases h1 x hx with rfl|hx
 ·exact hv aG hr.right
 exact h aG hr.left x hx
theorem PD{κ:Type}[DecidableEq κ]{k x:κ}{v:Value}{F:List (κ×Value)}(h:x=k∨x∈F.map (·.1)):x∈(mg k v F).map (·.1):=by
 unfold mg
 split
 ·rename_i i u hf
  have zd:=(qz hf).2
  rw[Nat.sub_zero] at zd
  have hs:((F.set i (k,v)).map (·.1))=F.map (·.1):=by
   rw[List.map_set]
   refine List.ext_getElem? fun j=>?_
   rw[List.getElem?_set]
   split
   ·rename_i hj;subst hj;simp[zd,(List.getElem?_eq_some_iff.1 zd).1,(List.getElem?_eq_some_iff.1 zd).2]
   rfl
  rw[Fa,hs]
  rcases h with rfl|h
  ·exact List.mem_map_of_mem (f:=(·.1)) (zL zd)
  exact h
 rw[List.map_append]
 rcases h with rfl|h
 ·exact List.mem_append_right _ (by simp)
 exact List.mem_append_left _ h
def Seen(es:Array MapEntry)(seen:List Nat)(F:List (an×Value)):Prop:=∀e∈es.toList,e∈cN es seen∨∃k,e.key=oQ k∧k∈F.map (·.1)
theorem Seen.start{es:Array MapEntry}{F:List (an×Value)}:Seen es [] F:=fun e he=> .inl (by rw[Cv];exact he)
theorem Seen.step{es:Array MapEntry}{F0 F:List (an×Value)}(h:Seen es seen F)(hE:tC oQ F0 es ck){e:MapEntry}(he:e∈cN es seen){k:an}(hk:e.key=oQ k){v:Value}:Seen es (seen++[e.born]) (mg k v F):=fun x hx=>by
 rcases h x hx with h1| ⟨q,h1,h2⟩
 ·rcases UT hE he h1 with rfl|h2
  ·exact .inr ⟨k,hk,PD (.inl rfl)⟩
  exact .inl h2
 exact .inr ⟨q,h1,PD (.inr h2)⟩
theorem anT{a b:an}(h:oQ a=oQ b):a=b:=by
 rcases a with ⟨x,y,z⟩;rcases b with ⟨d,e,f⟩
 simp only[oQ,cM,Value.agg.injEq,Array.mk.injEq,List.cons.injEq,Value.int.injEq] at h
 simp[h.1.2,h.2.1.2,h.2.2.1.2]
theorem Seen.fin{es:Array MapEntry}{F0 F:List (an×Value)}(h:Seen es seen F)(hl:cN es seen=[])(hE:tC oQ F0 es ck){k:an}(hk:k∈F0.map (·.1)):k∈F.map (·.1):=by
 obtain⟨⟨k',v⟩,h1,rfl⟩:=List.mem_map.1 hk
 have:(oQ k',v)∈es.toList.map (fun e=>(e.key,e.val)):=by rw[hE.1];exact List.mem_map_of_mem (f:=fun x:an×Value=>(oQ x.1,x.2)) h1
 obtain⟨e,h2,h3⟩:=List.mem_map.1 this
 simp only[Prod.mk.injEq] at h3
 rcases h e h2 with h4| ⟨q,h4,h5⟩
 ·rw[hl] at h4;cases h4
 have:=anT (h3.1.symm.trans h4);subst this;exact h5
structure S9(ro:Nat→Option Obj)(r:Nat)(H:List an)(g:an→an)(es:Array MapEntry)(ck:Nat)(F:List (an×Value)):Prop where
 m:ro r=some (.map es ck)
 e:tC oQ F es ck
 k:F.map (·.1)=H
 v:∀x∈F,bD ro x.2 3 cM [g x.1]
theorem GL{a x:α}{j:Nat}(h: [a][j]?=some x):x=a∧j=0:=by
 cases j with
 |zero=>simp at h;exact⟨h.symm,rfl⟩
 |succ j=>simp at h
theorem ar5{BS:Array MapEntry}{F1:List (an×Value)}{r2 ck2:Nat}{ET:Array MapEntry}{F2:List (an×Value)}{H:List an}{g:an→an}(Jn:S9 ro r1 H id BS Js F1)(hP2:S9 ro r2 H g ET ck2 F2):dO zT 179 [(.map (some r1)),(.map (some r2))] ro [] (fun r Y=>∃rm F LM Z,r= .map (some rm)∧Y=LM++Z∧jQ rm oQ F LM∧(∀h∈H,h∈F.map (·.1))∧MV Z F g):=by
 refine zE<|zD 6<|jmk oQ fun Gu L11 ah2=>zD 6<|jmR Jn.m fun r13=>jg 0 [.b r13 (uQ r1 Js [])]<|zD 2<|nY<|dP [1,1,0,1,0,0] [] (fun(zz:(List Nat)×(List (an×Value))×Cells×Cells)=>[(1,(.map (some r2))),(4,(.map none)),(5,(.map (some Gu))),(13,zP r13)]) (fun(zz:(List Nat)×(List (an×Value))×Cells×Cells)=>[.b r13 (uQ r1 Js zz.1),.l zz.2.2.1,.l zz.2.2.2]) (fun(zz:(List Nat)×(List (an×Value))×Cells×Cells)=>jQ Gu oQ zz.2.1 zz.2.2.1∧Seen BS zz.1 zz.2.1∧MV zz.2.2.2 zz.2.1 g) (fun(zz:(List Nat)×(List (an×Value))×Cells×Cells)=>(cN BS zz.1).length) (⟨[],[],L11,[]⟩) ⟨ah2,Seen.start,fun _ _ _ h=>(by cases h)⟩ [1,2,0] ?_
 rintro⟨seen,F,LM,Z⟩ hI K1 bH rest
 dsimp only at hI
 refine zD 2<|jmN (it:=r13) (kv:=oQ) (seen:=seen) 0 Jn.m Jn.e (fun O7 v14 Fy aGL u7 aoG aP4=>?_) (fun aPu=>?_)
 ·
  have hkH:O7∈H:=by rw[←Jn.k];exact List.mem_map_of_mem (f:=(·.1)) aGL
  have hvv:bD ro v14 3 cM [O7]:=Jn.v _ aGL
  obtain⟨I6,qvb,qvo,yf,rfl,qvk,Nb,Na⟩:=hvv
  refine jg 0 [.b r13 (uQ r1 Js (seen++[Fy.born]))]<|zD 8<|jmE (it:=r13) 0 Jn.m Jn.e u7 aoG aP4<|jg 0 [.b r13 (uQ r1 Js (seen++[Fy.born]))]<|zD 2<|jn fun b6=>jd 15 [0]<|nY<|dP [1,1,0,1,0,0,1,1,0,1,1,0,1,0,0] [K1] (fun(zz:Nat×Value×Cells)=>[(1,(.map (some r2))),(4,(.map none)),(5,(.map (some Gu))),(6,zP b6),(8,zz.2.1),(13,zP r13),(19,.slice I6 ([O7].length) yf),(20,zI ([O7].length:Int)),(21,zI (zz.1:Int))]) (fun zz=>[.l zz.2.2,.b b6 (.cells ⟨[zI O7.h,zI O7.n,zI O7.l]⟩ 158 (0,0)),.b r13 (uQ r1 Js (seen++[Fy.born])),.l LM,.l Z]) (fun zz=>zz.1≤[O7].length∧ax zz.2.1 3 158 cM ([g O7].take zz.1) zz.2.2) (fun zz=>[O7].length-zz.1) (⟨0,zS,[]⟩) ⟨by simp,ax.nil _ _ _⟩ (zN 0 5) ?_
  rintro⟨i,vO,LO⟩ hJ K2 mr rest
  dsimp only at hJ
  have Tq: [O7].length=1:=rfl
  refine zD 5<|zJ 22 ((i:Int) <([O7].length:Int)) (fun h1=>?_) fun h1=>?_
  ·
   refine zD 6 ?_
   obtain⟨vk,tb⟩:=zG ([O7]) i
   refine ek yf 3 Nb tb<|jl 0 (Na _ _ tb)<|jn fun sC=>jd 2 [0] ?_
   obtain⟨hxe,hj0⟩:=GL tb
   refine jd 4 [0]<|jlu (kv:=oQ) (F:=F2) (r:=r2) (K:=158) vk (zS) false [] [] DJ (fun s he _=>⟨_,_,he _ _ (.inl hP2.m),hP2.e⟩) ?_
   obtain⟨w28,aPP,awT⟩:=Yh (k:=vk) (F:=F2) (by rw[hP2.k,hxe];exact hkH)
   have hww:bD ro w28 3 cM [g vk]:=hP2.v _ awT
   obtain⟨Qj,qwb,qwo,I5,rfl,qwk,qwh,qwl⟩:=hww
   refine jw 28 (.slice Qj ([g vk].length) I5) (show Q1 (zS) false vk F2=_ from by simp only[Q1,aPP];rfl) ?_
   refine iC (sz:=3) (ps:=([g O7].take i)) (qs:=[g vk]) (enc:=cM) (w:= .slice Qj ([g vk].length) I5) [1] [] [] (hJ.2) (fun s he _=>⟨Qj,qwb,qwo,I5,rfl,qwh,fun i p hp=>(qwl i p hp).ext he⟩) (fun p _=>aj rfl) (by simp only[List.length_take,List.length_cons,List.length_nil];omega) (fun v29 L29 HA=>?_)
   obtain⟨adF,adz,ais⟩:=HA.form
   subst ais
   refine zD 3<|ja ((i:Int)+1) (by omega)<|zD 2<|bI mr (⟨i+1,(.slice adF ((([g O7].take i)++[g vk])).length adz),L29⟩) ⟨by dsimp only;omega,by have:=HA;rw[hj0] at this ⊢;rw[hxe] at this;exact this⟩ (by dsimp only;omega) [0,2,3,4,5] (Sub.refl _)
  refine jd 6 [1]<|aV 3 fun pW pZ oU=>jcL (vs:=[vO]) [] [0] LO (fun aI hs hZ=>Ze (hJ.2.kg hZ) (by simp only[List.length_take,List.length_cons,List.length_nil];omega)) ?_
  rintro v34 L34 aQQ
  refine eH oU (zN 1 5)<|aV 4 fun rI rK qu=>jmu (kv:=oQ) (F:=F) (r:=Gu) (K:=158) 4 O7 (v34) DJ hI.1 fun Lm4 hm4=>gq qu<|zD 1<|LU bH (⟨(seen++[Fy.born]),_,Lm4,Z++L34⟩) ⟨hm4,hI.2.1.step Jn.e u7 aoG,hI.2.2.put fun aG hk=>(by have:=aQQ;rw[show ([g O7].take i)=[g O7] from List.take_of_length_le (by simp;omega)] at this;exact this.kg hk)⟩ (G3 u7) [[4],[0],[5,1]] (Sub.refl _)
 refine jg 0 [.b r13 (uQ r1 Js seen)]<|zD 11<|zR ((.map (some Gu))) [] [1,2] (LM++Z) ⟨Gu,F,LM,Z,rfl,rfl,hI.1,fun h hh=>hI.2.1.fin aPu Jn.e (by rw[Jn.k];exact hh),hI.2.2⟩
theorem af4{κ:Type}{kv:κ→Value}{F:List (κ×Value)}{es:Array MapEntry}(h:tC kv F es ck):es.toList.length=F.length:=by
 have:=congrArg List.length h.1
 simpa using this
theorem ajF{BS:Array MapEntry}{F1:List (an×Value)}{H:List an}{g:an→an}(Jn:S9 ro r1 H g BS Js F1)(hn:H.length≤8)(hS:∀x∈F1,(g x.1).h=0∨(g x.1).h=1):dO zT 178 [(.map (some r1)),zI 2] ro [] (fun r Y=>∃a n c,r= .agg ⟨[.slice a n c]⟩):=by
 refine zE<|zD 2<|jn fun b4=>zD 4<|jmS (E:=80) (z:= zS) fun Ak=>jg 0 [.b Ak (.cells ⟨[zS,zS]⟩ 80 (0,0))]<|zD 1<|jn fun b5=>jd 6 [0]<|jmR Jn.m fun r16=>jg 0 [.b r16 (uQ r1 Js [])]<|zD 2<|nY<|nY<|dP [1,1,0,1,0,0] [] (fun(zz:(List Nat)×Value×Cells×(List ai)×Value×Cells×(List ai))=>[(4,zP b4),(5,zP b5),(16,zP r16)]) (fun zz=>[.b r16 (uQ r1 Js zz.1),.b Ak (.cells ⟨[zz.2.1,zz.2.2.2.2.1]⟩ 80 (0,0)),.l zz.2.2.1,.l zz.2.2.2.2.2.1,.b b5 (.cells ⟨[.slice (some ⟨Ak,0,none⟩) 2 2]⟩ 27 (0,0)),.b b4 (.cells ⟨[zS]⟩ 27 (0,0))]) (fun zz=>zz.2.2.2.1.length+zz.2.2.2.2.2.2.length+(cN BS zz.1).length≤8∧ax zz.2.1 2 79 cL zz.2.2.2.1 zz.2.2.1∧ax zz.2.2.2.2.1 2 79 cL zz.2.2.2.2.2.2 zz.2.2.2.2.2.1) (fun zz=>(cN BS zz.1).length) (⟨[],zS,[],[],zS,[],[]⟩) ⟨by rw[Cv,af4 Jn.e];have:=congrArg List.length Jn.k;simp at this ⊢;omega,ax.nil _ _ _,ax.nil _ _ _⟩ [2,4,1,0,3,5] ?_
 rintro⟨seen,w0,L0,p0,w1,L1,p1⟩ hI K1 bH rest
 dsimp only at hI
 refine zD 2<|jmN (it:=r16) (kv:=oQ) (seen:=seen) 0 Jn.m Jn.e (fun k17 v17 e17 aoL J3 abG aP2=>?_) (fun bc3=>?_)
 ·
  have hvv:bD ro v17 3 cM [g k17]:=Jn.v _ aoL
  obtain⟨I6,qvb,qvo,yf,rfl,qvk,Nb,Na⟩:=hvv
  have hsg:(g k17).h=0∨(g k17).h=1:=hS _ aoL
  have cO:=G3 J3
  refine jg 0 [.b r16 (uQ r1 Js (seen++[e17.born]))]<|zD 8<|jmE (it:=r16) 0 Jn.m Jn.e J3 abG aP2<|jg 0 [.b r16 (uQ r1 Js (seen++[e17.born]))]<|zD 10<|dP [1,1,0,1,0,0,1,1,0,1,1,0,0] [K1] (fun(zz:Nat×Value×Cells×(List ai)×Value×Cells×(List ai))=>[(4,zP b4),(5,zP b5),(16,zP r16),(21,.slice I6 ([g k17].length) yf),(22,zI ([g k17].length:Int)),(23,zI (zz.1:Int))]) (fun zz=>[.b r16 (uQ r1 Js (seen++[e17.born])),.b Ak (.cells ⟨[zz.2.1,zz.2.2.2.2.1]⟩ 80 (0,0)),.l zz.2.2.1,.l zz.2.2.2.2.2.1,.b b5 (.cells ⟨[.slice (some ⟨Ak,0,none⟩) 2 2]⟩ 27 (0,0)),.b b4 (.cells ⟨[zS]⟩ 27 (0,0))]) (fun zz=>(zz.1≤1∧zz.2.2.2.1.length+zz.2.2.2.2.2.2.length+(cN BS (seen++[e17.born])).length+(1-zz.1)≤8)∧ax zz.2.1 2 79 cL zz.2.2.2.1 zz.2.2.1∧ax zz.2.2.2.2.1 2 79 cL zz.2.2.2.2.2.2 zz.2.2.2.2.2.1) (fun zz=>1-zz.1) (⟨0,w0,L0,p0,w1,L1,p1⟩) ⟨by dsimp only;omega,hI.2⟩ (zN 0 6) ?_
  rintro⟨i,w0,L0,p0,w1,L1,p1⟩ hJ K2 mr rest
  dsimp only at hJ
  have Tq: [g k17].length=1:=rfl
  refine zD 5<|zJ 24 ((i:Int) <([g k17].length:Int)) (fun h1=>?_) fun h1=>?_
  ·
   refine zD 6 ?_
   obtain⟨yB,lv⟩:=zG ([g k17]) i
   refine ek yf 3 Nb lv<|jl 0 (Na _ _ lv) ?_
   obtain⟨hxe,hi0⟩:=GL lv;rw[←hxe] at hsg;obtain⟨xh,xn,xl⟩:=yB;dsimp only at hsg;rcases hsg with rfl|rfl
   ·
    refine jn fun b9=>jd 11 [0,5,0,5,0]<|jd 4 [2,0]<|aV 12 fun pW pZ oU=>jn fun b39=>eH oU (zN 1 7)<|aV 13 fun rI rK qu=>iC (sz:=2) (ps:=p0) (qs:=[(⟨xn,xl⟩:ai)]) (enc:=cL) (w:= .slice (some ⟨b39,0,none⟩) 1 1) [4] [0] [(b39,.cells ⟨([(⟨xn,xl⟩:ai)].map cL).flatten⟩ 79 (0,0))] (hJ.2.1) (fun s _ hZ=>bK [(⟨xn,xl⟩:ai)] (hZ _ (.head _)) (by intro p hp;rfl)) (fun p _=>aj rfl) (by simp only[List.length_cons,List.length_nil];omega) (fun v40 L40 Hx=>?_)
    obtain⟨atc,as0,axx⟩:=Hx.form
    subst axx
    refine gM qu [[2],[6],[2],[6]]<|zD 1<|aV 15 fun An Ay Ba=>jd 1 [4]<|gq Ba<|zD 2<|ja ((i:Int)+1) (by omega)<|zD 2<|bI mr (⟨i+1,(.slice atc ((p0++[(⟨xn,xl⟩:ai)])).length as0),L40,(p0++[(⟨xn,xl⟩:ai)]),w1,L1,p1⟩) ⟨by simp only[zM];omega,Hx,hJ.2.2⟩ (by dsimp only;omega) [3,4,0,5,6,7] (Sub.refl _)
   refine jn fun b9=>jd 11 [0,5,0,5,0]<|jd 4 [2,0]<|aV 12 fun ZY aai VN=>jn fun b39=>eH VN (zN 1 7)<|aV 13 fun amc amC VM=>iC (sz:=2) (ps:=p1) (qs:=[(⟨xn,xl⟩:ai)]) (enc:=cL) (w:= .slice (some ⟨b39,0,none⟩) 1 1) [5] [0] [(b39,.cells ⟨([(⟨xn,xl⟩:ai)].map cL).flatten⟩ 79 (0,0))] (hJ.2.2) (fun s _ hZ=>bK [(⟨xn,xl⟩:ai)] (hZ _ (.head _)) (by intro p hp;rfl)) (fun p _=>aj rfl) (by simp only[List.length_cons,List.length_nil];omega) (fun v40 L40 Hx=>?_)
   obtain⟨atc,as0,axx⟩:=Hx.form
   subst axx
   refine gM VM [[2],[6],[2],[6]]<|zD 1<|aV 15 fun TD TZ VL=>jd 1 [4]<|gq VL<|zD 2<|ja ((i:Int)+1) (by omega)<|zD 2<|bI mr (⟨i+1,w0,L0,p0,(.slice atc ((p1++[(⟨xn,xl⟩:ai)])).length as0),L40,(p1++[(⟨xn,xl⟩:ai)])⟩) ⟨by simp only[zM];omega,hJ.2.1,Hx⟩ (by dsimp only;omega) [3,4,5,0,6,7] (Sub.refl _)
  refine zD 2<|bI bH (⟨(seen++[e17.born]),w0,L0,p0,w1,L1,p1⟩) ⟨by dsimp only;omega,hJ.2⟩ cO (zN 0 6) (Sub.refl _)
 refine jg 0 [.b r16 (uQ r1 Js seen)]<|jd 14 [4]<|dP [1,1,1,0,1,0,0] [] (fun(zz:Nat×Value×Cells×(List ai)×Value×Cells×(List ai))=>[(4,zP b4),(5,zP b5),(44,.slice (some ⟨Ak,0,none⟩) 2 2),(45,zI 2),(46,zI (zz.1:Int))]) (fun zz=>[.b Ak (.cells ⟨[zz.2.1,zz.2.2.2.2.1]⟩ 80 (0,0)),.l zz.2.2.1,.l zz.2.2.2.2.2.1,.b b5 (.cells ⟨[.slice (some ⟨Ak,0,none⟩) 2 2]⟩ 27 (0,0)),.b b4 (.cells ⟨[zS]⟩ 27 (0,0))]) (fun zz=>(zz.1≤2∧zz.2.2.2.1.length≤8∧zz.2.2.2.2.2.2.length≤8)∧ax zz.2.1 2 79 cL zz.2.2.2.1 zz.2.2.1∧ax zz.2.2.2.2.1 2 79 cL zz.2.2.2.2.2.2 zz.2.2.2.2.2.1) (fun zz=>2-zz.1) (⟨0,w0,L0,p0,w1,L1,p1⟩) ⟨by dsimp only;omega,hI.2⟩ (zN 1 5) ?_
 rintro⟨k,w0,L0,p0,w1,L1,p1⟩ hQ K9 hK9 rest
 dsimp only at hQ
 refine zD 5<|zJ 47 ((k:Int) <2) (fun h8=>?_) fun h8=>?_
 ·
  refine zD 6 ?_
  rcases(show k=0∨k=1 by omega) with hk0|hk0
  ·
   refine jw 46 (zI 0) (show Value.int .i64 (k:Int)= zI 0 by rw[hk0];rfl) ?_
   refine jd 6 [0]<|jc (vs:=[w0,.func (.func 184) ⟨[]⟩ ⟨[]⟩]) [1] (ajz hQ.2.1 (by omega)) ?_
   rintro aNe Y51 ⟨asH,awx,awH⟩
   refine zD 5 ?_
   have hle:=awx.length_eq
   exact bI hK9 (⟨1,w0,Y51,asH,w1,L1,p1⟩) ⟨by dsimp only;omega,awH,hQ.2.2⟩ (by dsimp only;omega) [1,0,2,3,4] (Sub.refl _)
  refine jw 46 (zI 1) (show Value.int .i64 (k:Int)= zI 1 by rw[hk0];rfl) ?_
  refine jd 6 [0]<|jc (vs:=[w1,.func (.func 184) ⟨[]⟩ ⟨[]⟩]) [2] (ajz hQ.2.2 (by omega)) ?_
  rintro aNe Y51 ⟨asH,awx,awH⟩
  refine zD 5 ?_
  have hle:=awx.length_eq
  exact bI hK9 (⟨2,w0,L0,p0,w1,Y51,asH⟩) ⟨by dsimp only;omega,hQ.2.1,awH⟩ (by dsimp only;omega) [1,2,0,3,4] (Sub.refl _)
 refine jd 8 [3,4]<|zR (.agg ⟨[.slice (some ⟨Ak,0,none⟩) 2 2]⟩) [4] [] [] ⟨_,_,_,rfl⟩
structure WX where
 a:Option Addr
 n:Nat
 c:Nat
 ea:Option Addr
 en:Nat
 ec:Nat
 r:Nat
abbrev akf(t:WX):List Value:=[.slice t.a t.n t.c,.slice t.ea t.en t.ec,.map (some t.r)]
structure TrD where
 ways:List Int
 g:an→an
def aVt(ro:Nat→Option Obj)(r:Nat)(H:List an)(g:an→an):Prop:=∃es ck F,ro r=some (.map es ck)∧tC oQ F es ck∧(∀h∈H,h∈F.map (·.1))∧∀y∈F,bD ro y.2 3 cM [g y.1]
def TrR(H:List an)(ro:Nat→Option Obj)(t:WX)(x:TrD):Prop:=bD ro (.slice t.a t.n t.c) 1 cm x.ways∧aVt ro t.r H x.g
def TrO(H:List an)(LL:Cells)(t:WX)(x:TrD):Prop:=∀aG,Knows aG LL→TrR H aG t x
abbrev apo(H:List an)(L:List TrD):(Nat→Option Obj)→Nat→List Value→Cells→Prop:=fun _ k vs LL=>∃x t,L[k]?=some x∧vs=[.agg ⟨akf t⟩]∧TrO H LL t x
def atp(S:List (List ai))(l:List aO)(i:Nat):TrD:=⟨[(i:Int)],match l[i]? with
 |some c=>yY S c
 |none=>id⟩
def dc(S:List (List ai)):List (List aO)→List TrD
 | []=>[⟨[],id⟩]
 |l::_=>(List.range l.length).map (atp S l)
theorem Km{S:List (List ai)}{l:List aO}{c:aO}(h:l[i]?=some c):(dc S [l])[i]?=some ⟨[(i:Int)],yY S c⟩:=by
 have hi:=(List.getElem?_eq_some_iff.1 h).1
 simp only[dc,List.getElem?_map,List.getElem?_range hi,Option.map_some,atp,h]
structure yy(ways:List (List aO)):Prop where
 one:ways.length≤1
 ok:∀l∈ways,(1≤l.length∧l.length≤3)∧∀c∈l,jz c
theorem aIC{c:aO}(h:jz c):1≤c.k∧c.k≤7:=by
 simp only[jz,List.mem_cons,List.not_mem_nil,or_false] at h
 rcases h with rfl|rfl|rfl|rfl|rfl<;>simp
theorem ar4{x:an}:∀(u:List (an×an)) (y:an),u.foldl (fun y p=>if x=p.1 then p.2 else y) y=y∨∃p∈u,u.foldl (fun y p=>if x=p.1 then p.2 else y) y=p.2
 | [],y=> .inl rfl
 |p::u,y=>by
  simp only[List.foldl_cons]
  rcases ar4 (x:=x) u (if x=p.1 then p.2 else y) with h| ⟨q,hq,h⟩
  ·rw[h]
   split
   ·exact .inr ⟨p,by simp,rfl⟩
   exact .inl rfl
  exact .inr ⟨q,by simp[hq],h⟩
theorem ayD{u:List (an×an)}{x:an}:gU u x=x∨∃p∈u,gU u x=p.2:=ar4 u x
theorem afU{S:List (List ai)}{c:aO}(hc:jz c){x:an}(hx:x.h=0∨x.h=1):(yY S c x).h=0∨(yY S c x).h=1:=by
 rcases ayD (u:=ayQ S c) (x:=x) with h| ⟨p,hp,h⟩
 ·rw[yY,h];exact hx
 rw[yY,h]
 simp only[jz,List.mem_cons,List.not_mem_nil,or_false] at hc
 rcases hc with rfl|rfl|rfl|rfl|rfl<;>simp[ayQ,adK,Kv,LQ,Jy,mG] at hp
 ·obtain⟨_,_,_,_,_,rfl⟩:=hp;exact .inl rfl
 ·obtain⟨_,_,rfl⟩:=hp;exact .inl rfl
 ·obtain⟨_,_,_,_,_,rfl⟩:=hp;exact .inr rfl
 ·obtain⟨_,_,rfl⟩:=hp;exact .inr rfl
 obtain⟨_,_,rfl⟩:=hp;exact .inl rfl
theorem Rz{S:List (List ai)}(hO:eV S){x:an}(hx:x∈bG S):x.h=0∨x.h=1:=by
 obtain⟨j,l,p,h1,_,_,rfl⟩:=Fq.1 hx
 have:=hO.two
 simp only[mG];omega
theorem S9.up{r:Nat}{H:List an}{g:an→an}{es:Array MapEntry}{F:List (an×Value)}(h:S9 ro r H g es ck F)(hs:Sub ro aG):S9 aG r H g es ck F:=⟨hs _ _ h.m,h.e,h.k,fun x hx=>(h.v x hx).up hs⟩
theorem aUf{v:Value}{S:List (List ai)}{c:aO}(hc:jz c)(hS:cX ro v S)(hO:eV S):dO zT 176 [.agg ⟨[v]⟩,.agg ⟨kM c⟩] ro [] (fun r Y=>∃rm F LM Z,r= .tuple ⟨[.map (some rm),zI 0]⟩∧Y=LM++Z∧jQ rm oQ F LM∧F.map (·.1)=bG S∧MV Z F (yY S c)):=by
 simp only[jz,List.mem_cons,List.not_mem_nil,or_false] at hc
 rcases hc with rfl|rfl|rfl|rfl|rfl
 ·exact aIg hS hO
 ·exact aIf hS hO
 ·exact aIe hS hO
 ·exact aId hS hO
 exact aIc hS hO
def Ki(ro:Nat→Option Obj)(b:Nat)(S:List (List ai))(ways:List (List aO)):Prop:=∃vS vT vH fa fc,ro b=some (.cells ⟨[vS,vT,.slice fa 0 fc,vH]⟩ 195 (0,0))∧cX ro vS S∧nO ro vT ways∧bD ro vH 3 cM (bG S)
theorem Ki.up{S:List (List ai)}(h:Ki ro b S ways)(hs:Sub ro aG):Ki aG b S ways:=by
 obtain⟨vS,vT,vH,fa,fc,h1,h2,h3,h4⟩:=h
 exact⟨vS,vT,vH,fa,fc,hs _ _ h1,h2.up hs,h3.up hs,h4.up hs⟩
theorem ayJ{fa:Option Addr}{S:List (List ai)}(hS:cX ro vS S)(hO:eV S)(hT:nO ro vT ways)(hW:yy ways):dO zT 126 [.agg ⟨[vS,vT,.slice fa 0 fc]⟩] ro [] (fun r Y=>∃b vH LH,r= .tuple ⟨[zP b,zI 0]⟩∧Y=(b,.cells ⟨[vS,vT,.slice fa 0 fc,vH]⟩ 195 (0,0))::LH∧ax vH 3 158 cM (bG S) LH):=by
 have ym:=hS
 obtain⟨ib,hs,fq⟩:=hS
 obtain⟨mh,Ux,Uv,ld,rfl,Uw,Ng,Nf⟩:=hs
 obtain⟨iM,ht,eY⟩:=id hT
 obtain⟨eS,AI,AG,dW,rfl,AH,sA,sw⟩:=ht
 have Jh:=fq.len
 have EK:=eY.len
 have JX:=hO.two
 have A5:=hW.one
 have O2:∀(i:Nat) (p:db),([]:List db)[i]?=some p→cB ⟨ro,[]⟩ 0 (0+i*6) 6 (mN p):=fun _ _ h=>oz h
 refine zE<|zD 2<|jn fun b1=>jd 8 [0]<|jp (vs:=[.agg ⟨[.slice mh ib.length ld]⟩]) [] [] (fun aI hs hZ=>ayI (ym.up hs) hO)<|jd 17 [0]<|zJ 21 ((iM.length:Int)>3) (fun h1=>?_) fun h1=>?_
 ·
  exfalso;omega
 refine jd 11 [0]<|dP [1,1,1,0,1,0,0] [] (fun(zz:Nat)=>[(1,zP b1),(23,.slice eS iM.length dW),(24,zI (iM.length:Int)),(25,zI (zz:Int))]) (fun zz=>[.b b1 (.cells ⟨[.slice mh ib.length ld,.slice eS iM.length dW,.slice fa 0 fc]⟩ 31 (0,0))]) (fun zz=>zz≤iM.length) (fun zz=>iM.length-zz) 0 (by omega) [0] ?_
 rintro k hI K1 bH rest
 refine zD 5<|zJ 26 ((k:Int) <(iM.length:Int)) (fun h2=>?_) fun h2=>?_
 ·
  refine zD 6 ?_
  obtain⟨x27,JV⟩:=zG iM k
  refine ek dW 1 sA JV ?_
  obtain⟨l28,aRn,Oa⟩:=eY.get JV
  obtain awT:=hW.ok _ (zL aRn)
  obtain⟨aC3,bb7,bb5,aum,rfl,bb6,aNR,aNQ⟩:=Oa
  refine jl 0 (sw _ _ JV)<|jn fun b6=>jd 10 [0,0]<|zJ 32 ((l28.length:Int)=0) (fun h3=>?_) fun h3=>?_
  ·
   exfalso;omega
  refine jd 10 [0]<|zJ 36 ((l28.length:Int)>3) (fun h4=>?_) fun h4=>?_
  ·
   exfalso;omega
  refine jd 10 [0]<|dP [1,1,1,0,1,0,0,1,1,0,0,1,1,1,1,0,0] [K1] (fun(zz:Nat)=>[(1,zP b1),(23,.slice eS iM.length dW),(24,zI (iM.length:Int)),(25,zI (k:Int)),(38,.slice aC3 l28.length aum),(39,zI (l28.length:Int)),(40,zI (zz:Int))]) (fun zz=>[.b b6 (.cells ⟨[.slice aC3 l28.length aum]⟩ 87 (0,0)),.b b1 (.cells ⟨[.slice mh ib.length ld,.slice eS iM.length dW,.slice fa 0 fc]⟩ 31 (0,0))]) (fun zz=>zz≤l28.length) (fun zz=>l28.length-zz) 0 (by omega) [0,1] ?_
  rintro i hJ K2 mr rest
  refine zD 5<|zJ 41 ((i:Int) <(l28.length:Int)) (fun h5=>?_) fun h5=>?_
  ·
   refine zD 6 ?_
   obtain⟨x42,Va⟩:=zG l28 i
   refine ek aum 7 aNR Va<|jl 0 (aNQ _ _ Va)<|jn fun b8=>jd 3 [0] ?_
   have YZ:=aIC (awT.2 _ (zL Va))
   refine jd 3 [0]<|jp (vs:=[zI x42.k,zI 1,zI 7]) [] [] (fun aI hs hZ=>Bb)<|zD 2<|js 47 (!(iH x42.k 1 7)) (fun h6=>?_) (fun h6=>?_)
   ·
    try simp only[zB] at h6
    exfalso;simp only[iH,Bool.and_eq_false_iff,decide_eq_false_iff_not] at h6;omega
   try simp only[zB] at h6
   refine zD 3<|ja ((i:Int)+1) (by omega)<|zD 2<|bI mr (i+1) (by omega) (by omega) [1,2] (Sub.refl _)
  refine zD 3<|ja ((k:Int)+1) (by omega)<|zD 2<|bI bH (k+1) (by omega) (by omega) [1] (Sub.refl _)
 refine jd 17 [0,0,0]<|aV 3 fun pW pZ oU=>jc (vs:=[.agg ⟨[.slice mh ib.length ld]⟩]) [] (Zf ym hO) ?_
 rintro v57 L57 aox
 obtain⟨amu,ams,aip⟩:=aox.form
 subst aip
 refine eH oU [1]<|zD 1<|aV 5 fun rI rK qu=>jn fun b59=>eH qu [1,2]<|jd 11 [2]<|dP [1,1,1,1,1,1,0,1,0,0] [] (fun(zz:Nat)=>[(1,zP b1),(9,zP b59),(61,.slice fa 0 fc),(62,zI 0),(63,zI 0)]) (fun zz=>[.b b59 (.cells ⟨[.slice mh ib.length ld,.slice eS iM.length dW,.slice fa 0 fc,(.slice amu (bG S).length ams)]⟩ 195 (0,0)),.l L57,.b b1 (.cells ⟨[.slice mh ib.length ld,.slice eS iM.length dW,.slice fa 0 fc]⟩ 31 (0,0))]) (fun zz=>True) (fun zz=>zz) 0 trivial [0,1,2] ?_
 rintro z hQ K5 hK5 rest
 refine zD 14<|zR (.tuple ⟨[zP b59,zI 0]⟩) [] [0,1] ((b59,.cells ⟨[.slice mh ib.length ld,.slice eS iM.length dW,.slice fa 0 fc,(.slice amu (bG S).length ams)]⟩ 195 (0,0))::L57) ⟨_,_,_,rfl,rfl,aox⟩
structure acG(ro:Nat→Option Obj)(bl b b1 b2 b3:Nat):Prop where
 t:ro b1=some (.cells ⟨[zP b]⟩ 190 (0,0))
 y:ro b2=some (.cells ⟨[.func (.yield bl) #[] #[]]⟩ 269 (0,0))
 g:ro b3=some (.cells ⟨[.func (.func 174) ⟨[]⟩ ⟨[zP b1,zP b2,zP b3]⟩]⟩ 269 (0,0))
theorem acG.up(h:acG ro bl b b1 b2 b3)(hs:Sub ro aG):acG aG bl b b1 b2 b3:=⟨hs _ _ h.t,hs _ _ h.y,hs _ _ h.g⟩
theorem aIa{t:WX}{S:List (List ai)}(Jm:Ki ro b S ways):dv zT 175 [zP b,.agg ⟨[.slice t.a t.n t.c,.slice t.ea t.en t.ec,(.map (some t.r))]⟩] ro (.bool true):=by
 obtain⟨vS,vT,vH,fa,fc,gb,hS,hT,hHs⟩:=Jm
 have ym:=hS
 obtain⟨ib,hs,fq⟩:=hS
 obtain⟨mh,Ux,Uv,ld,rfl,Uw,Ng,Nf⟩:=hs
 obtain⟨iM,ht,eY⟩:=id hT
 obtain⟨eS,AI,AG,dW,rfl,AH,sA,sw⟩:=ht
 have Jh:=fq.len
 have EK:=eY.len
 have O2:∀(i:Nat) (p:db),([]:List db)[i]?=some p→cB ⟨ro,[]⟩ 0 (0+i*6) 6 (mN p):=fun _ _ h=>oz h
 refine zE<|zD 2<|jn fun b3=>zD 9<|jl (b:=b) (off:=0) (m:=4) (vs:=[.slice mh ib.length ld,.slice eS iM.length dW,.slice fa 0 fc,vH]) 2 ⟨_,_,_,.inl gb,rfl⟩<|zD 4<|dP [1,0,1,0,0] [] (fun(zz:Nat)=>[(3,zP b3),(11,.slice fa 0 fc),(12,zI 0),(13,zI 0)]) (fun zz=>[.b b3 (.cells ⟨[.slice t.a t.n t.c,.slice t.ea t.en t.ec,(.map (some t.r))]⟩ 199 (0,0))]) (fun zz=>True) (fun zz=>zz) 0 trivial [0] ?_
 rintro z hI K1 bH rest
 refine zD 12<|zX (.bool true) ⟨rfl,rfl⟩
theorem ajy:dO zT 127 [zP b] ro [] (fun r Y=>∃b1,r= .func (.func 173) ⟨[]⟩ ⟨[zP b1]⟩∧Y=[(b1,.cells ⟨[zP b]⟩ 190 (0,0))]):=by
 refine zE<|zD 2<|jn fun b1=>zD 8<|zR (.func (.func 173) ⟨[]⟩ ⟨[zP b1]⟩) [] [0] [(b1,.cells ⟨[zP b]⟩ 190 (0,0))] ⟨_,rfl,rfl⟩
theorem ajA{S:List (List ai)}{L:List TrD}{Inv:Nat→Cells→Prop}{t:WX}{x:TrD}{LL:Cells}(Jm:Ki ro b S ways)(hC:acG ro bl b b1 b2 b3)(hn:t.n=ways.length)(hx:L[k]?=some x) (hR:TrO (bG S) LL t x) (hB:Inv k B) (hy:YOK zT bl ro L.length (apo (bG S) L) Inv Stop):dO zT 174 [.agg ⟨[.slice t.a t.n t.c,.slice t.ea t.en t.ec,(.map (some t.r))]⟩,zP b1,zP b2,zP b3] ro (LL++B) (fun r Y=>∃c,r= .bool c∧(c=true→Inv (k+1) Y)∧(c=false→Stop Y)):=by
 have aoY:=Jm
 obtain⟨vS,vT,vH,fa,fc,gb,hS,hT,hHs⟩:=Jm
 have ym:=hS
 obtain⟨ib,hs,fq⟩:=hS
 obtain⟨mh,Ux,Uv,ld,rfl,Uw,Ng,Nf⟩:=hs
 obtain⟨iM,ht,eY⟩:=id hT
 obtain⟨eS,AI,AG,dW,rfl,AH,sA,sw⟩:=ht
 have Jh:=fq.len
 have EK:=eY.len
 have O2:∀(i:Nat) (p:db),([]:List db)[i]?=some p→cB ⟨ro,[]⟩ 0 (0+i*6) 6 (mN p):=fun _ _ h=>oz h
 refine zC [.l LL,.l B]<|zD 2<|jn fun b4=>jd 13 [0]<|jl (b:=b1) (off:=0) (m:=1) (vs:=[zP b]) 0 ⟨_,_,_,.inl hC.t,rfl⟩<|zD 3<|jl (b:=b) (off:=0) (m:=4) (vs:=[.slice mh ib.length ld,.slice eS iM.length dW,.slice fa 0 fc,vH]) 1 ⟨_,_,_,.inl gb,rfl⟩<|zD 3<|zJ 21 ((t.n:Int)=(iM.length:Int)) (fun h1=>?_) fun h1=>?_
 ·
  refine zD 3<|jl (b:=b1) (off:=0) (m:=1) (vs:=[zP b]) 0 ⟨_,_,_,.inl hC.t,rfl⟩<|jd 1 [0]<|jp (vs:=[zP b,.agg ⟨[.slice t.a t.n t.c,.slice t.ea t.en t.ec,(.map (some t.r))]⟩]) [] [] (fun aI hs hZ=>aIa (t:=t) (aoY.up hs))<|zD 2<|jl (b:=b2) (off:=0) (m:=1) (vs:=[(.func (.yield bl) #[] #[])]) 0 ⟨_,_,_,.inl hC.y,rfl⟩<|jd 1 [0]<|jyc [1,2] (hy k [.agg ⟨[.slice t.a t.n t.c,.slice t.ea t.en t.ec,(.map (some t.r))]⟩] LL B ro (List.getElem?_eq_some_iff.1 hx).1 ⟨x,t,hx,rfl,hR⟩ hB (Sub.refl _)) (Sub.refl _) ?_
  intro v29 Y29 aPD
  obtain⟨c29,rfl,aSo,aSd⟩:=yb aPD
  refine zD 4<|zR (.bool c29) [] [0] Y29 ⟨_,rfl,aSo,aSd⟩
 exfalso;omega
theorem aUb{S:List (List ai)}{l:List aO}{Inv:Nat→Cells→Prop}{ea:Option Addr}{r0:Nat}{es0:Array MapEntry}{F0:List (an×Value)}(Jm:Ki ro b S [l])(hO:eV S)(hW:yy [l])(hC:acG ro bl b b1 b2 b3)(hE:∀aG,Knows aG LE→cX aG (.slice ea en ec) S)(hE0:tC oQ F0 es0 ck0)(hk0:F0.map (·.1)=bG S)(hM0:MV Z F0 id)(hB:Inv 0 B)(hy:YOK zT bl ro (dc S [l]).length (apo (bG S) (dc S [l])) Inv Stop):dO zT 174 [.agg ⟨[zS,.slice ea en ec,(.map (some r0))]⟩,zP b1,zP b2,zP b3] ro (LE++(r0,.map es0 ck0)::(Z++B)) (fun r Y=>∃c,r= .bool c∧(c=true→Inv l.length Y)∧(c=false→Stop Y)):=by
 have aoY:=Jm
 obtain⟨vS,vT,vH,fa,fc,gb,hS,hT,hHs⟩:=Jm
 have ym:=hS
 obtain⟨ib,hs,fq⟩:=hS
 obtain⟨w1,w2,rfl⟩:=pY (fq.len.trans hO.two)
 obtain⟨mh,Ux,Uv,ld,rfl,Uw,Ng,Nf⟩:=hs
 obtain⟨iM,ht,eY⟩:=id hT
 obtain⟨eS,AI,AG,dW,rfl,AH,sA,sw⟩:=ht
 have EK:=eY.len
 have O2:∀(i:Nat) (p:db),([]:List db)[i]?=some p→cB ⟨ro,[]⟩ 0 (0+i*6) 6 (mN p):=fun _ _ h=>oz h
 refine zC [.l LE,.b r0 (.map es0 ck0),.l Z,.l B]<|zD 2<|jn fun b4=>zD 1<|jf [1,2,3] (LE++((r0,.map es0 ck0)::Z)) (fun z0 bZ iQ=>?_)
 have hE1:=hE _ (Knows.left iQ)
 have Jn:S9 z0 r0 (bG S) id es0 ck0 F0:=⟨Knows.right iQ _ (.head _),hE0,hk0,hM0 _ (Knows.tail (Knows.right iQ))⟩
 refine jd 12 [0]<|jl (b:=b1) (off:=0) (m:=1) (vs:=[zP b]) 0 ⟨_,_,_,.inl (bZ _ _ hC.t),rfl⟩<|zD 3<|jl (b:=b) (off:=0) (m:=4) (vs:=[.slice mh 2 ld,.slice eS iM.length dW,.slice fa 0 fc,vH]) 1 ⟨_,_,_,.inl (bZ _ _ gb),rfl⟩<|zD 3<|zJ 21 (0=(iM.length:Int)) (fun h4=>?_) fun h4=>?_
 ·
  exfalso;simp at EK;omega
 refine zD 4 ?_
 have YO:iM.length=1:=EK
 refine zD 1<|jl (b:=b1) (off:=0) (m:=1) (vs:=[zP b]) 0 ⟨_,_,_,.inl (bZ _ _ hC.t),rfl⟩<|zD 3<|jl (b:=b) (off:=0) (m:=4) (vs:=[.slice mh 2 ld,.slice eS iM.length dW,.slice fa 0 fc,vH]) 1 ⟨_,_,_,.inl (bZ _ _ gb),rfl⟩<|zD 1 ?_
 obtain⟨x37,abr⟩:=zG iM 0
 refine ek dW 1 sA abr<|zD 1 ?_
 obtain⟨l39,aGn,h39⟩:=eY.get abr
 obtain aRc:=hW.ok _ (zL aGn)
 obtain air:l39=l:=Option.some.inj (aGn.symm.trans rfl)
 obtain⟨aNO,bbZ,bbX,aCZ,rfl,bbY,aNN,aNM⟩:=h39
 refine jl 0 ((sw _ _ abr).ext (n5 bZ))<|zD 4<|dP [1,1,1,0,1,0,0] [] (fun(zz:Nat×Cells)=>[(1,zP b1),(3,zP b3),(4,zP b4),(39,.slice aNO l39.length aCZ),(40,zI (l39.length:Int)),(41,zI (zz.1:Int))]) (fun zz=>[.l zz.2,.b b4 (.cells ⟨[zS,.slice ea en ec,(.map (some r0))]⟩ 199 (0,0))]) (fun zz=>zz.1≤l39.length∧Inv zz.1 zz.2) (fun zz=>l39.length-zz.1) (⟨0,B⟩) ⟨by dsimp only;omega,hB⟩ [1,0] ?_
 rintro⟨i,B⟩ hI K1 bH rest
 dsimp only at hI
 refine zD 5<|zJ 42 ((i:Int) <(l39.length:Int)) (fun h5=>?_) fun h5=>?_
 ·
  refine zD 7 ?_
  obtain⟨ZZ,JU⟩:=zG l39 i
  refine ek aCZ 7 aNN JU<|jl 0 ((aNM _ _ JU).ext (n5 bZ))<|jn fun b8=>jd 4 [0] ?_
  have hco:=aRc.2 _ (zL JU)
  refine jd 4 [2,0]<|jc (vs:=[.agg ⟨[.slice ea en ec]⟩,.agg ⟨[zI ZZ.k,zI ZZ.st,zI ZZ.ot,zI ZZ.fn,zI ZZ.fl,zI ZZ.tn,zI ZZ.tl]⟩]) [] (aUf (c:=ZZ) hco (hE1.up (Sub.refl _)) hO) ?_
  rintro _ _ ⟨r9,F9,LM9,Z9,rfl,rfl,hm9,hk9,hM9⟩
  obtain⟨es9,ck9,rfl,hE9⟩:=hm9
  refine jg 0 [.b r9 (.map es9 ck9),.l Z9]<|zD 5<|jf [0,1] ((r9,.map es9 ck9)::Z9) (fun ro8 y7 hk7=>?_)
  have hP2:S9 ro8 r9 (bG S) (yY S ZZ) es9 ck9 F9:=⟨hk7 _ (.head _),hE9,hk9,hM9 _ (Knows.tail hk7)⟩
  refine zD 11<|jl (b:=b3) (off:=0) (m:=1) (vs:=[.func (.func 174) ⟨[]⟩ ⟨[zP b1,zP b2,zP b3]⟩]) 0 ⟨_,_,_,.inl (y7 _ _ (bZ _ _ hC.g)),rfl⟩<|jd 4 [2]<|jl (b:=b1) (off:=0) (m:=1) (vs:=[zP b]) 0 ⟨_,_,_,.inl (y7 _ _ (bZ _ _ hC.t)),rfl⟩<|zD 4<|jl (b:=b) (off:=0) (m:=4) (vs:=[.slice mh 2 ld,.slice eS iM.length dW,.slice fa 0 fc,vH]) 0 ⟨_,_,_,.inl (y7 _ _ (bZ _ _ gb)),rfl⟩<|jd 4 [2]<|Jb [3,5] ⟨fun z2 t3 qu=>?_,fun z5 t6 VM=>?_,trivial⟩
  ·
   refine jc (vs:=[zS]) [] (aIh (bD.nil _ _ _ _ _) (by simp)) ?_
   rintro v58 L58 ahU
   obtain⟨TU,TN,HK⟩:=ahU.form
   subst HK
   refine eH qu [1,2,3]<|aV 5 fun TD TZ VL=>jn fun b60=>eH VL (zN 1 4)<|aV 6 fun TB TY R9=>iC (sz:=1) (ps:=([]:List Int)) (qs:=[(i:Int)]) (enc:=cm) (w:= .slice (some ⟨b60,0,none⟩) 1 1) [1] [0] [(b60,.cells ⟨([(i:Int)].map cm).flatten⟩ 3 (0,0))] (ahU) (fun s _ hZ=>bK [(i:Int)] (hZ _ (.head _)) (by intro p hp;rfl)) (fun p _=>aj rfl) (by simp only[List.length_cons,List.length_nil];omega) (fun v61 L61 Ht=>?_)
   obtain⟨adD,adx,axs⟩:=Ht.form
   subst axs
   refine gM R9 [[4],[],[],[]]<|aV 15 fun Dj Ds uv=>jc (vs:=[(.map (some r9)),zI 2]) [] (ajF (hP2.up (Sub.refl _)) (ur hO) (fun x hx=>afU hco (Rz hO (by rw[←hk9];exact List.mem_map_of_mem (f:=(·.1)) hx)))) ?_
   rintro _ L70 ⟨a70,n70,c70,rfl⟩
   refine eH uv (zN 1 5)<|aV 19 fun FD Gc zi=>jc (vs:=[(.map (some r0)),(.map (some r9))]) [] (ar5 (Jn.up y7) (hP2.up (Sub.refl _))) ?_
   rintro _ _ ⟨r74,F74,aVy,Z74,rfl,rfl,awS,axc,ax5⟩
   obtain⟨Ol,OB,rfl,ayk⟩:=awS
   refine jg 0 [.b r74 (.map Ol OB),.l Z74]<|eH zi (zN 2 6)<|zD 1<|aV 21 fun Pt PT CV=>jc (vs:=[.agg ⟨[(.slice adD ((([]:List Int)++[(i:Int)])).length adx),.slice a70 n70 c70,(.map (some r74))]⟩,zP b1,zP b2,zP b3]) [3,0,1,6] ((show dO _ _ _ _ (L61++(r74,.map Ol OB)::(Z74++B)) _ from by have:=ajA (t:=⟨adD,((([]:List Int)++[(i:Int)])).length,adx,a70,n70,c70,r74⟩) (LL:=L61++(r74,.map Ol OB)::Z74) (aoY.up (bZ.trans y7)) (hC.up (bZ.trans y7)) rfl (Km (by rw[←air];exact JU)) (fun aG hk=>⟨by simpa using Ht.kg (Knows.left hk),Ol,OB,F74,(Knows.right hk) _ (.head _),ayk,axc,fun y hy=>ax5 aG (Knows.tail (Knows.right hk)) y hy⟩) hI.2 (hy.up (bZ.trans y7));rwa[List.append_assoc,List.cons_append] at this)) ?_
   rintro _ Y76 ⟨c76,rfl,axP,axJ⟩
   refine gM CV [[],[]]<|zD 2<|js 77 (!c76) (fun HZ=>?_) (fun HZ=>?_)
   ·
    try simp only[zB] at HZ
    refine zD 6<|aL q0.a.a (.bool false) [] [0] Y76 (bZ.trans y7) ⟨_,_,rfl,rfl,_,rfl,nofun,fun _=>axJ (by simp_all)⟩
   try simp only[zB] at HZ
   refine zD 3<|ja ((i:Int)+1) (by omega)<|zD 2<|bI bH (⟨i+1,Y76⟩) ⟨by dsimp only;omega,axP (by simp_all)⟩ (by dsimp only;omega) [0,4] y7
  refine jn fun b60=>eH VM [1,2,3]<|aV 3 fun aAX aBS VY=>jc (vs:=[zS]) [] (aIh (bD.nil _ _ _ _ _) (by simp)) ?_
  rintro v58 L58 ahU
  obtain⟨TU,TN,HK⟩:=ahU.form
  subst HK
  refine eH VY (zN 1 4)<|aV 6 fun aV8 aWC aTp=>iC (sz:=1) (ps:=([]:List Int)) (qs:=[(i:Int)]) (enc:=cm) (w:= .slice (some ⟨b60,0,none⟩) 1 1) [0] [1] [(b60,.cells ⟨([(i:Int)].map cm).flatten⟩ 3 (0,0))] (ahU) (fun s _ hZ=>bK [(i:Int)] (hZ _ (.head _)) (by intro p hp;rfl)) (fun p _=>aj rfl) (by simp only[List.length_cons,List.length_nil];omega) (fun v61 L61 Ht=>?_)
  obtain⟨adD,adx,axs⟩:=Ht.form
  subst axs
  refine gM aTp [[4],[],[],[]]<|aV 15 fun aV7 aWB ai0=>jc (vs:=[(.map (some r9)),zI 2]) [] (ajF (hP2.up (Sub.refl _)) (ur hO) (fun x hx=>afU hco (Rz hO (by rw[←hk9];exact List.mem_map_of_mem (f:=(·.1)) hx)))) ?_
  rintro _ L70 ⟨a70,n70,c70,rfl⟩
  refine eH ai0 (zN 1 5)<|aV 19 fun aAW aBR J6=>jc (vs:=[(.map (some r0)),(.map (some r9))]) [] (ar5 (Jn.up y7) (hP2.up (Sub.refl _))) ?_
  rintro _ _ ⟨r74,F74,aVy,Z74,rfl,rfl,awS,axc,ax5⟩
  obtain⟨Ol,OB,rfl,ayk⟩:=awS
  refine jg 0 [.b r74 (.map Ol OB),.l Z74]<|eH J6 (zN 2 6)<|zD 1<|aV 21 fun adb adX HW=>jc (vs:=[.agg ⟨[(.slice adD ((([]:List Int)++[(i:Int)])).length adx),.slice a70 n70 c70,(.map (some r74))]⟩,zP b1,zP b2,zP b3]) [3,0,1,6] ((show dO _ _ _ _ (L61++(r74,.map Ol OB)::(Z74++B)) _ from by have:=ajA (t:=⟨adD,((([]:List Int)++[(i:Int)])).length,adx,a70,n70,c70,r74⟩) (LL:=L61++(r74,.map Ol OB)::Z74) (aoY.up (bZ.trans y7)) (hC.up (bZ.trans y7)) rfl (Km (by rw[←air];exact JU)) (fun aG hk=>⟨by simpa using Ht.kg (Knows.left hk),Ol,OB,F74,(Knows.right hk) _ (.head _),ayk,axc,fun y hy=>ax5 aG (Knows.tail (Knows.right hk)) y hy⟩) hI.2 (hy.up (bZ.trans y7));rwa[List.append_assoc,List.cons_append] at this)) ?_
  rintro _ Y76 ⟨c76,rfl,axP,axJ⟩
  refine gM HW [[],[]]<|zD 2<|js 77 (!c76) (fun Mh=>?_) (fun Mh=>?_)
  ·
   try simp only[zB] at Mh
   refine zD 6<|aL q0.a.a (.bool false) [] [0] Y76 (bZ.trans y7) ⟨_,_,rfl,rfl,_,rfl,nofun,fun _=>axJ (by simp_all)⟩
  try simp only[zB] at Mh
  refine zD 3<|ja ((i:Int)+1) (by omega)<|zD 2<|bI bH (⟨i+1,Y76⟩) ⟨by dsimp only;omega,axP (by simp_all)⟩ (by dsimp only;omega) [0,4] y7
 refine zD 7<|aL q0.a (.bool true) [] [0] B bZ ⟨_,_,rfl,rfl,_,rfl,(fun _=>by have:=hI.2;rwa[show i=l.length by rw[←air];omega] at this),nofun⟩
theorem aH9{S:List (List ai)}{Inv:Nat→Cells→Prop}{ea:Option Addr}{r0:Nat}{es0:Array MapEntry}{F0:List (an×Value)}(Jm:Ki ro b S ways)(hO:eV S)(hW:yy ways)(hC:acG ro bl b b1 b2 b3)(hE:∀aG,Knows aG LE→cX aG (.slice ea en ec) S)(hE0:tC oQ F0 es0 ck0)(hk0:F0.map (·.1)=bG S)(hM0:MV Z F0 id)(hB:Inv 0 B)(hy:YOK zT bl ro (dc S ways).length (apo (bG S) (dc S ways)) Inv Stop):
 dO zT 174 [.agg ⟨[zS,.slice ea en ec,.map (some r0)]⟩,zP b1,zP b2,zP b3] ro (LE++(r0,.map es0 ck0)::(Z++B)) (fun r Y=>∃c,r= .bool c∧(c=true→Inv (dc S ways).length Y)∧(c=false→Stop Y)):=by
 match ways,hW with
 | [],_=>
  have:=ajA (t:=⟨none,0,0,ea,en,ec,r0⟩) (x:=⟨[],id⟩) (k:=0) (LL:=LE++(r0,.map es0 ck0)::Z) Jm hC rfl rfl (fun aG hk=>⟨bD.nil _ _ _ _ _,es0,ck0,F0,(Knows.right hk) _ (.head _),hE0,fun h hh=>by rw[hk0];exact hh,hM0 _ (Knows.tail (Knows.right hk))⟩) hB hy
  rwa[List.append_assoc,List.cons_append] at this
 | [l],hW=>
  refine(aUb Jm hO hW hC hE hE0 hk0 hM0 hB hy).mono fun _ _ ⟨c,h1,h2,h3⟩=>⟨c,h1,fun h=>?_,h3⟩
  rw[show (dc S [l]).length=l.length by simp[dc]]
  exact h2 h
 |_::_::_,hW=>exact absurd hW.one (by simp)
theorem abU{S:List (List ai)}(g1:ro b1=some (.cells ⟨[zP b]⟩ 190 (0,0)))(Jm:Ki ro b S ways)(hO:eV S)(hW:yy ways):ItX zT 173 [] [zP b1] ro [] (dc S ways).length (apo (bG S) (dc S ways)) (fun Z=>Z=[]):=by
 intro bl aI Inv Stop hs hy B hB
 replace g1:=hs _ _ g1
 replace Jm:=Jm.up hs
 have aS1:=Jm
 obtain⟨vS,vT,vH,fa,fc,gb,hS,hT,hHs⟩:=Jm
 have ym:=hS
 obtain⟨ib,mw,fq⟩:=hS
 obtain⟨am0,bbv,bbr,amZ,rfl,bbt,bbu,bbs⟩:=mw
 obtain⟨iM,ht,eY⟩:=id hT
 obtain⟨eS,AI,AG,dW,rfl,AH,sA,sw⟩:=ht
 have O2:∀(i:Nat) (p:db),([]:List db)[i]?=some p→cB ⟨aI,[]⟩ 0 (0+i*6) 6 (mN p):=fun _ _ h=>oz h
 refine zC [.l B]<|zD 2<|jn fun b2=>zD 3<|jn fun b3=>jd 5 [0]<|jf [1,0] ((b2,.cells ⟨[(.func (.yield bl) #[] #[])]⟩ 269 (0,0))::[(b3,.cells ⟨[.func (.func 174) ⟨[]⟩ ⟨[zP b1,zP b2,zP b3]⟩]⟩ 269 (0,0))]) fun z0 bZ iQ=>zD 2<|jl (b:=b3) (off:=0) (m:=1) (vs:=[.func (.func 174) ⟨[]⟩ ⟨[zP b1,zP b2,zP b3]⟩]) 0 ⟨_,_,_,.inl (iQ _ (.tail _ (.head _))),rfl⟩<|jl (b:=b1) (off:=0) (m:=1) (vs:=[zP b]) 0 ⟨_,_,_,.inl (bZ _ _ g1),rfl⟩<|zD 3<|jl (b:=b) (off:=0) (m:=4) (vs:=[.slice am0 ib.length amZ,.slice eS iM.length dW,.slice fa 0 fc,vH]) 0 ⟨_,_,_,.inl (bZ _ _ gb),rfl⟩<|jl (b:=b1) (off:=0) (m:=1) (vs:=[zP b]) 0 ⟨_,_,_,.inl (bZ _ _ g1),rfl⟩<|zD 3<|jl (b:=b) (off:=0) (m:=4) (vs:=[.slice am0 ib.length amZ,.slice eS iM.length dW,.slice fa 0 fc,vH]) 0 ⟨_,_,_,.inl (bZ _ _ gb),rfl⟩<|aV 6 fun BU B0 Ah=>jc (vs:=[.agg ⟨[.slice am0 ib.length amZ]⟩]) [] (apg (ym.up bZ) hO) ?_
 rintro _ L11 ⟨a11,n11,c11,rfl,aTC⟩
 refine eH Ah [1]<|aV 12 fun yA yI x6=>jc (vs:=[.agg ⟨[.slice am0 ib.length amZ]⟩]) [] (Ml (ym.up bZ) hO) ?_
 rintro _ _ ⟨r17,F17,bgM,Z17,rfl,rfl,abE,abG,aTb⟩
 obtain⟨aUs,aUH,rfl,aTB⟩:=abE
 refine jg 0 [.b r17 (.map aUs aUH),.l Z17]<|eH x6 [2,3]<|zD 1<|aV 14 fun pW pZ oU=>jc (vs:=[.agg ⟨[zS,.slice a11 n11 c11,(.map (some r17))]⟩,zP b1,zP b2,zP b3]) [2,0,1,3] (aH9 (aS1.up bZ) hO hW ⟨(bZ _ _ g1),iQ _ (.head _),iQ _ (.tail _ (.head _))⟩ aTC aTB abG aTb hB (YOK.up hy bZ)) ?_
 rintro _ Y19 ⟨c19,rfl,aSr,aSg⟩
 refine gM oU [[],[]]<|zD 1<|aL q0.a (.tuple ⟨[]⟩) [] [0] Y19 bZ ⟨_,_,rfl,rfl,[],Y19,rfl,rfl,by cases c19 with|true=>exact .inl (aSr rfl)|false=>exact .inr (aSg rfl)⟩
theorem Ga{S:List (List ai)}(hW:yy ways):(dc S ways).length≤3:=by
 match ways,hW with
 | [],_=>simp[dc]
 |l::_,hW=>
  have:=(hW.ok l (by simp)).1.2
  simpa [dc] using this
theorem ajE{fa:Option Addr}{S:List (List ai)}(hS:cX ro vS S)(hO:eV S)(hT:nO ro vT ways)(hW:yy ways):FnG zT 100 [.agg ⟨[vS,vT,.slice fa 0 fc]⟩] ro [] (fun r aI Y=>∃b vl ts Lt Z,r= .tuple ⟨[zP b,vl,zI 0]⟩∧Ki aI b S ways∧Y=Lt++Z∧ax vl 3 199 akf ts Lt∧ts.length=(dc S ways).length∧∀aG,Knows aG Z→de (TrR (bG S) aG) ts (dc S ways)):=by
 have ym:=hS
 obtain⟨ib,hs,fq⟩:=hS
 obtain⟨mh,Ux,Uv,ld,rfl,Uw,Ng,Nf⟩:=hs
 obtain⟨iM,ht,eY⟩:=id hT
 obtain⟨eS,AI,AG,dW,rfl,AH,sA,sw⟩:=ht
 have Jh:=fq.len
 have EK:=eY.len
 have JX:=hO.two
 have A5:=hW.one
 have O2:∀(i:Nat) (p:db),([]:List db)[i]?=some p→cB ⟨ro,[]⟩ 0 (0+i*6) 6 (mN p):=fun _ _ h=>oz h
 refine aEX (hm:=au) [] [] ba<|zD 2<|jn fun b1=>jd 7 [0]<|jc (vs:=[.agg ⟨[.slice mh ib.length ld,.slice eS iM.length dW,.slice fa 0 fc]⟩]) [] (ayJ ym hO hT hW) ?_
 rintro _ _ ⟨S2,aBr,aJu,rfl,rfl,awJ⟩
 refine jg 0 [.b S2 (.cells ⟨[.slice mh ib.length ld,.slice eS iM.length dW,.slice fa 0 fc,aBr]⟩ 195 (0,0)),.l aJu]<|zD 5<|jf [0,1] ((S2,.cells ⟨[.slice mh ib.length ld,.slice eS iM.length dW,.slice fa 0 fc,aBr]⟩ 195 (0,0))::aJu) (fun z0 bZ iQ=>?_)
 have Jm:Ki z0 S2 S ways:=⟨_,_,_,_,_,iQ _ (.head _),ym.up bZ,hT.up bZ,awJ.kg (Knows.tail iQ)⟩
 refine zD 10 ?_
 have hLn:(dc S ways).length≤3:=Ga hW
 refine zD 1<|jn fun b7=>zD 5<|jc (vs:=[zP S2]) [] (ajy) ?_
 rintro _ _ ⟨aq8,rfl,rfl⟩
 refine jg 0 [.b aq8 (.cells ⟨[zP S2]⟩ 190 (0,0))]<|jf [0] [(aq8,.cells ⟨[zP S2]⟩ 190 (0,0))] fun ro6 ki YR=>zD 2<|nY<|nY<|jrf [] (abU (YR _ (.head _)) (Jm.up ki) hO hW) (by rintro _ _ _ _ ⟨_,_,_,rfl,_⟩;rfl) (fun(zz:Value×Cells×(List WX)×Cells)=>[.b b7 (.cells ⟨[zz.1]⟩ 191 (0,0)),.l zz.2.1,.l zz.2.2.2]) (fun kk=>(fun(zz:Value×Cells×(List WX)×Cells)=>ax zz.1 3 199 akf zz.2.2.1 zz.2.1∧zz.2.2.1.length=kk∧(∀aG,Knows aG zz.2.2.2→de (TrR (bG S) aG) zz.2.2.1 ((dc S ways).take kk))∧(dc S ways).length≤3)) (fun jump=>(fun(zz:Value×Cells×(List WX)×Cells)=>False)) (⟨zS,[],[],[]⟩) ⟨ax.nil _ _ _,rfl,fun _ _=> .nil,hLn⟩ [2,0,1] ?_ ?_ ?_
 ·
  rintro bl7 bd7 kk7 vs7 LL7 ⟨vl,Lt,ts,Z⟩ ro7 hk7 aRS hI rZ
  obtain⟨x7,t7,hx7,rfl,hR7⟩:=aRS
  dsimp only at hI
  have bX:=(List.getElem?_eq_some_iff.1 hx7).1
  refine zD 1<|jn fun b8=>jd 2 [0]<|aE0<|jd 4 [2,0]<|jn fun OL=>iC (sz:=3) (ps:=ts) (qs:=[(⟨t7.a,t7.n,t7.c,t7.ea,t7.en,t7.ec,t7.r⟩:WX)]) (enc:=akf) (w:= .slice (some ⟨OL,0,none⟩) 1 1) [4] [0] [(OL,.cells ⟨([(⟨t7.a,t7.n,t7.c,t7.ea,t7.en,t7.ec,t7.r⟩:WX)].map akf).flatten⟩ 199 (0,0))] (hI.1) (fun s _ hZ=>bK [(⟨t7.a,t7.n,t7.c,t7.ea,t7.en,t7.ec,t7.r⟩:WX)] (hZ _ (.head _)) (by intro p hp;rfl)) (fun p _=>aj rfl) (by simp only[List.length_cons,List.length_nil];omega) (fun v23 L23 za=>?_)
  obtain⟨aME,aMl,axA⟩:=za.form
  subst axA
  refine jd 2 [4]<|jyn qy0 (Sub.refl _) ⟨(.slice aME ((ts++[(⟨t7.a,t7.n,t7.c,t7.ea,t7.en,t7.ec,t7.r⟩:WX)])).length aMl),L23,(ts++[(⟨t7.a,t7.n,t7.c,t7.ea,t7.en,t7.ec,t7.r⟩:WX)]),LL7++Z⟩ ⟨za,by simp only[zM];omega,fun aG hk=>pU (hI.2.2.1 aG (Knows.right hk)) hx7 (hR7 aG (Knows.left hk)),hI.2.2.2⟩ [3,4,0,6,5]
 ·
  rintro bd7 ⟨vl,Lt,ts,Z⟩ Z7 hI hZ7
  dsimp only at hI
  subst hZ7
  refine jd 9 [2]<|aO7 qm0.a.a.m (.tuple ⟨[zP S2,vl,zI 0]⟩) [0] [] [2,3] (Lt++Z) (Sub.refl _) ⟨_,_,_,rfl,rfl,(bZ.trans ki),S2,vl,ts,Lt,Z,rfl,Jm.up ki,rfl,hI.1,hI.2.1,by have:=hI.2.2.1;rwa[List.take_of_length_le (Nat.le_refl _)] at this⟩
 rintro bd7 ⟨vl,Lt,ts,Z⟩ Z7 jump hS hZ7
 exact hS.elim
def wv(t:WX):Value:= .slice t.a t.n t.c
theorem de.maps{β γ δ:Type}{R:α→β→Prop}{T:γ→δ→Prop}{f:α→γ}{g:β→δ}(h:∀a b,R a b→T (f a) (g b)):∀ {l:List α} {m:List β},de R l m→de T (l.map f) (m.map g)
 | [],[],.nil=> .nil
 |_::_,_::_,.cons h1 h2=> .cons (h _ _ h1) (de.maps h h2)
theorem aaS{y:an}{l:List an}(h:y∈l):cv (pd y.h y.n y.l) l 0≥0:=by
 have key:∀(l:List an) (k:Nat),y∈l→cv (pd y.h y.n y.l) l k≥0:=by
  intro l
  induction l with
  |nil=>intro k h;cases h
  |cons x l ih=>
   intro k h
   simp only[cv]
   cases hx:pd y.h y.n y.l x with
   |true=>simp
   |false=>
    simp only[cond_false]
    rcases List.mem_cons.1 h with rfl|h
    ·simp[pd] at hx
    exact ih _ h
 exact key l 0 h
theorem ape{fa:Option Addr}{S:List (List ai)}(hS:cX ro vS S)(hO:eV S)(hT:nO ro vT ways)(hW:yy ways):dO zT 95 [.agg ⟨[vS,vT,.slice fa 0 fc]⟩] ro [] (fun r Y=>∃a n c,r= .tuple ⟨[.slice a n c,zI 0]⟩∧n=((dc S ways).map (·.ways)).length∧∀k8,Knows k8 Y→ak2 k8 (.slice a n c) ((dc S ways).map (·.ways))):=by
 have ym:=hS
 obtain⟨ib,hs,fq⟩:=hS
 obtain⟨mh,Ux,Uv,ld,rfl,Uw,Ng,Nf⟩:=hs
 obtain⟨iM,ht,eY⟩:=id hT
 obtain⟨eS,AI,AG,dW,rfl,AH,sA,sw⟩:=ht
 have Jh:=fq.len
 have EK:=eY.len
 have JX:=hO.two
 have A5:=hW.one
 have O2:∀(i:Nat) (p:db),([]:List db)[i]?=some p→cB ⟨ro,[]⟩ 0 (0+i*6) 6 (mN p):=fun _ _ h=>oz h
 have hLn:=Ga (S:=S) hW
 refine zE<|zD 2<|jn fun b1=>jd 6 [0]<|jcG (vs:=[.agg ⟨[.slice mh ib.length ld,.slice eS iM.length dW,.slice fa 0 fc]⟩]) [] (ajE ym hO hT hW) ?_
 rintro _ aI _ bZ ⟨wW,vl,ts,Lt,Z,rfl,Jm,rfl,hL,htl,hA⟩
 obtain⟨uS,uT,uH,ua,uc,gb,_,_,hh⟩:=Jm
 obtain⟨dH,u5,u4,du,rfl,xp,qR,qQ⟩:=hh
 obtain⟨aMF,aMm,aR5⟩:=hL.form
 subst aR5
 refine jg 0 [.l Lt,.l Z]<|zD 28<|nY<|dP [1,1,1,1,0,1,0,0] [] (fun(zz:Nat×Value×Cells)=>[(2,zS),(3,zI 0),(7,zz.2.1),(19,(.slice aMF ts.length aMm)),(20,zI (ts.length:Int)),(21,zI (zz.1:Int))]) (fun zz=>[.l zz.2.2,.l Lt,.l Z,.b b1 (.cells ⟨[.slice mh ib.length ld,.slice eS iM.length dW,.slice fa 0 fc]⟩ 31 (0,0))]) (fun zz=>zz.1≤ts.length∧ax zz.2.1 1 22 fH ((ts.take zz.1).map wv) zz.2.2) (fun zz=>ts.length-zz.1) (⟨0,zS,[]⟩) ⟨by dsimp only;omega,ax.nil _ _ _⟩ (zN 0 4) ?_
 rintro⟨k,vO,LO⟩ hI K1 bH rest
 dsimp only at hI
 refine zD 5<|zJ 22 ((k:Int) <(ts.length:Int)) (fun h2=>?_) fun h2=>?_
 ·
  refine zD 6 ?_
  obtain⟨vk,tb⟩:=zG ts k
  refine jxo 3 hL tb fun b23 aSQ=>pg 0 [1] Lt (fun s _ hZ=>cK hL aSQ hZ tb)<|jn fun b9=>jd 6 [0,0]<|jn fun b28=>iC (sz:=1) (ps:=((ts.take k).map wv)) (qs:=[(.slice vk.a vk.n vk.c:Value)]) (enc:=fH) (w:= .slice (some ⟨b28,0,none⟩) 1 1) [2] [0] [(b28,.cells ⟨([(.slice vk.a vk.n vk.c:Value)].map fH).flatten⟩ 22 (0,0))] (hI.2) (fun s _ hZ=>bK [(.slice vk.a vk.n vk.c:Value)] (hZ _ (.head _)) (by intro p hp;rfl)) (by intro p hp;rw[List.mem_singleton] at hp;subst hp;exact aj rfl) (by simp only[List.length_map,List.length_take,List.length_cons,List.length_nil];omega) (fun v29 L29 HA=>?_)
  obtain⟨adF,adz,ais⟩:=HA.form
  subst ais
  refine zD 3<|ja ((k:Int)+1) (by omega)<|zD 2<|bI bH (⟨k+1,(.slice adF ((((ts.take k).map wv)++[(.slice vk.a vk.n vk.c:Value)])).length adz),L29⟩) ⟨by dsimp only;omega,by rw[dF tb,List.map_append];exact HA⟩ (by dsimp only;omega) [0,3,4,5] (Sub.refl _)
 refine zD 3 ?_
 obtain⟨va3,vc3,he3⟩:=hI.2.form
 subst he3
 refine zD 6<|aL q0.a (.tuple ⟨[(.slice va3 (((ts.take k).map wv)).length vc3),zI 0]⟩) [] [0,2] (LO++Z) bZ ⟨_,_,rfl,rfl,_,_,_,rfl,by simp only[List.length_map,List.length_take];omega,fun k8 hk=>⟨_,hI.2.kg (Knows.left hk),by rw[List.take_of_length_le (by omega)];exact(hA k8 (Knows.right hk)).maps fun _ _ h=>h.1⟩⟩
theorem ayB{fa:Option Addr}{S:List (List ai)}{y:an}{x:TrD}(hS:cX ro vS S)(hO:eV S)(hT:nO ro vT ways)(hW:yy ways)(hy:y∈bG S)(hLx:dc S ways=[x]):dO zT 72 [.agg ⟨[vS,vT,.slice fa 0 fc]⟩,.agg ⟨[zI y.h,zI y.n,zI y.l]⟩] ro [] (fun r Y=>∃a n c,r= .tuple ⟨[.slice a n c,zI 0]⟩∧∀k8,Knows k8 Y→bD k8 (.slice a n c) 3 cM [x.g y]):=by
 have ym:=hS
 obtain⟨ib,hs,fq⟩:=hS
 obtain⟨mh,Ux,Uv,ld,rfl,Uw,Ng,Nf⟩:=hs
 obtain⟨iM,ht,eY⟩:=id hT
 obtain⟨eS,AI,AG,dW,rfl,AH,sA,sw⟩:=ht
 have Jh:=fq.len
 have EK:=eY.len
 have JX:=hO.two
 have A5:=hW.one
 have O2:∀(i:Nat) (p:db),([]:List db)[i]?=some p→cB ⟨ro,[]⟩ 0 (0+i*6) 6 (mN p):=fun _ _ h=>oz h
 have hhl:=ur hO
 have hph:=aaS hy
 have Ah:(dc S ways).length=1:=by rw[hLx];rfl
 refine zE<|zD 2<|jn fun b2=>jn fun b3=>jd 6 [1]<|jcG (vs:=[.agg ⟨[.slice mh ib.length ld,.slice eS iM.length dW,.slice fa 0 fc]⟩]) [] (ajE ym hO hT hW) ?_
 rintro _ aI _ bZ ⟨ZK,vl,ts,Lt,Z,rfl,Jm,rfl,hL,htl,hA⟩
 obtain⟨uS,uT,uH,ua,uc,gb,_,_,hh⟩:=Jm
 obtain⟨dH,u5,u4,du,rfl,xp,qR,qQ⟩:=hh
 obtain⟨FT,Eh,u7⟩:=hL.form
 subst u7
 refine jg 0 [.l Lt,.l Z]<|zD 22<|jl (b:=ZK) (off:=0) (m:=4) (vs:=[uS,uT,.slice ua 0 uc,.slice dH ((bG S).length) du]) 3 ⟨_,_,_,.inl gb,rfl⟩<|jd 1 [2]<|jp (vs:=[.slice dH ((bG S).length) du,.agg ⟨[zI y.h,zI y.n,zI y.l]⟩]) [] [] (fun aI hs hZ=>LP ((show bD _ _ _ _ _ from ⟨dH,u5,u4,du,rfl,xp,qR,qQ⟩).up hs) (by omega))<|zD 2<|js 27 (!(decide (cv (pd y.h y.n y.l) (bG S) 0≥0))) (fun h2=>?_) (fun h2=>?_)
 ·
  exfalso;simp_all
 refine zD 9<|zJ 30 ((ts.length:Int)=0) (fun h3=>?_) fun h3=>?_
 ·
  exfalso;omega
 refine zD 5<|jf [0,1] (Lt++Z) (fun ro6 ki YR=>?_)
 have hLs:=hL.kg (Knows.left YR)
 have hAs:=hA _ (Knows.right YR)
 obtain⟨kR,I8,I7,kQ,Tl,O3,Gw,Gv⟩:=hLs
 simp only[Value.slice.injEq] at Tl
 obtain⟨rfl,_,rfl⟩:=Tl
 refine zD 9<|nY<|dP [1,1,1,1,1,1,0,1,0,0] [] (fun(zz:Nat×Value×Cells)=>[(3,zP b3),(4,zS),(5,zI 0),(9,zz.2.1),(31,.slice FT ts.length Eh),(32,zI (ts.length:Int)),(33,zI (zz.1:Int))]) (fun zz=>[.l zz.2.2,.b b3 (.cells ⟨[zI y.h,zI y.n,zI y.l]⟩ 158 (0,0)),.b b2 (.cells ⟨[.slice mh ib.length ld,.slice eS iM.length dW,.slice fa 0 fc]⟩ 31 (0,0))]) (fun zz=>zz.1≤ts.length∧ax zz.2.1 3 158 cM ([x.g y].take zz.1) zz.2.2) (fun zz=>ts.length-zz.1) (⟨0,zS,[]⟩) ⟨by dsimp only;omega,ax.nil _ _ _⟩ [0,1,2] ?_
 rintro⟨k,vO,LO⟩ hI K1 bH rest
 dsimp only at hI
 refine zD 5<|zJ 34 ((k:Int) <(ts.length:Int)) (fun h7=>?_) fun h7=>?_
 ·
  refine zD 6 ?_
  obtain⟨x35,Vb⟩:=zG ts k
  refine ek Eh 3 Gw Vb<|jl 0 (Gv _ _ Vb)<|jn fun S2=>jd 2 [0] ?_
  obtain⟨q35,aFI,_,bfF,bfM,F35,aRd,aTA,aRt,aPY⟩:=hAs.get Vb
  obtain⟨hqe,hk0⟩:=GL (by rw[hLx] at aFI;exact aFI)
  replace hqe:=hqe.symm
  subst hqe
  refine jd 5 [0,2]<|jlu (kv:=oQ) (F:=F35) (r:=x35.r) (K:=158) y (zS) false [] [] DJ (fun s he _=>⟨_,_,he _ _ (.inl aRd),aTA⟩) ?_
  obtain⟨w41,aPO,aRb⟩:=Yh (k:=y) (F:=F35) (aRt y hy)
  have hww:bD _ w41 3 cM [x.g y]:=aPY _ aRb
  obtain⟨Qj,qwb,qwo,I5,rfl,qwk,qwh,qwl⟩:=hww
  refine jw 41 (.slice Qj ([x.g y].length) I5) (show Q1 (zS) false y F35=_ from by simp only[Q1,aPO];rfl) ?_
  refine iC (sz:=3) (ps:=([x.g y].take k)) (qs:=[x.g y]) (enc:=cM) (w:= .slice Qj ([x.g y].length) I5) [1] [] [] (hI.2) (fun s he _=>⟨Qj,qwb,qwo,I5,rfl,qwh,fun i p hp=>(qwl i p hp).ext he⟩) (fun p _=>aj rfl) (by simp only[List.length_take,List.length_cons,List.length_nil];omega) (fun v42 L42 ahK=>?_)
  obtain⟨aMy,aMf,aR1⟩:=ahK.form
  subst aR1
  refine zD 3<|ja ((k:Int)+1) (by omega)<|zD 2<|bI bH (⟨k+1,(.slice aMy ((([x.g y].take k)++[x.g y])).length aMf),L42⟩) ⟨by dsimp only;omega,by have:=ahK;rw[hk0] at this ⊢;exact this⟩ (by dsimp only;omega) [0,2,3] (Sub.refl _)
 refine zD 5<|jcL (vs:=[vO]) [] [0] LO (fun aI hs hZ=>Ze (hI.2.kg hZ) (by simp only[List.length_take,List.length_cons,List.length_nil];omega)) ?_
 rintro v45 L45 aFT
 obtain⟨ata,asY,axv⟩:=aFT.form
 subst axv
 refine zD 4<|aL q0.a.a (.tuple ⟨[(.slice ata (([x.g y].take k)).length asY),zI 0]⟩) [] [0] L45 (bZ.trans ki) ⟨_,_,rfl,rfl,_,_,_,rfl,fun k8 hk=>by have:=aFT.kg hk;have e: [x.g y].take k=[x.g y]:=List.take_of_length_le (by simp only[List.length_cons,List.length_nil];omega);simpa only[e] using this⟩
def UC(S:List (List ai))(ways:List (List aO))(w:List Int)(x:aA):List an:=match ways,w with
 |l::_,i::_=>(match l[i.toNat]? with
  |some c=>[yY S c ⟨x.st,x.no,0⟩]
  |none=>[])
 |_,_=>[⟨x.st,x.no,0⟩]
def WW(K:aB):List (List Int):=(dc K.str K.ways).map (·.ways)
theorem WV{l:List aO}{w:List Int}(h:K.ways=[l])(hw:w∈WW K):∃(i:Nat) (c:aO),l[i]?=some c∧w=[(i:Int)]:=by
 simp only[WW,h,dc,List.map_map,List.mem_map,List.mem_range,Function.comp,atp] at hw
 obtain⟨i,hi,rfl⟩:=hw
 exact⟨i,l[i],List.getElem?_eq_getElem hi,rfl⟩
theorem jv.wp(h:jv K):yy K.ways:=⟨h.ways.1,fun l hl=>⟨⟨(h.ways.2 l hl).1.1,by have:=(h.ways.2 l hl).1.2;omega⟩,(h.ways.2 l hl).2⟩⟩
theorem XV(h:jv K):K.ways=[]∨∃l,K.ways=[l]:=by
 have:=h.ways.1
 match hw:K.ways,this with
 | [],_=>exact .inl rfl
 | [l],_=>exact .inr ⟨l,rfl⟩
theorem ado(h:jv K):WU K (WW K):=by
 rcases XV h with e| ⟨l,e⟩
 ·exact⟨by simp[WW,e,dc],fun w hw=>by simp[WW,e,dc] at hw;simp[hw,e],fun w hw k l n hl=>by simp[e] at hl⟩
 have hl:=(h.ways.2 l (by simp[e])).1
 refine⟨by simp[WW,e,dc];omega,fun w hw=>?_,fun w hw k l' n hk hn=>?_⟩
 ·obtain⟨i,c,_,rfl⟩:=WV e hw;simp[e]
 obtain⟨i,c,hi,rfl⟩:=WV e hw
 rw[e] at hk
 obtain⟨rfl,rfl⟩:=GL hk
 obtain⟨rfl,_⟩:=GL hn
 have:=(List.getElem?_eq_some_iff.1 hi).1
 omega
theorem adL(hK:fI ro l K)(hO:jv K):qK ro l (WW K):=by
 obtain⟨vS,vT,vc,vh,vr,vb,va,vf,fa,fc,hv,rfl,hS,hT,_⟩:=hK
 intro aI hs
 exact ape (hS.up hs) hO.oO (hT.up hs) hO.wp
theorem aa0{S:List (List ai)}{x:aA}(h:apX S hd x):(⟨x.st,x.no,0⟩:an)∈bG S:=by
 obtain⟨l,h1,h2⟩:=h.2
 have:=HE h1 h2
 simp only[mG] at this
 rwa[show ((x.st.toNat:Nat):Int)=x.st by have:=h.1.2.2.1;omega] at this
theorem apt{l:List aO}{c:aO}(h:l[i]?=some c):(l.take ((i:Int).toNat+1)).drop (i:Int).toNat=[c]:=by
 rw[Int.toNat_natCast,dF h,List.drop_append_of_le_length (by have:=(List.getElem?_eq_some_iff.1 h).1;rw[List.length_take];omega),List.drop_eq_nil_of_le (by rw[List.length_take];omega)];rfl
theorem amh(hK:fI ro l K)(hO:jv K):xO ro l K (WW K) (UC K.str K.ways):=by
 obtain⟨vS,vT,vc,vh,vr,vb,va,vf,fa,fc,hv,rfl,hS,hT,_⟩:=hK
 intro w hw x hx
 have hy:=aa0 (hO.before.2 x hx)
 have fin:∀(t:TrD),yy (Bq K.ways w)→dc K.str (Bq K.ways w)=[t]→UC K.str K.ways w x=[t.g ⟨x.st,x.no,0⟩]→(UC K.str K.ways w x).length≤1000∧∀aI,Sub ro aI→∀v vS' vT' vU r,[vS,vT,.slice fa 0 fc,vc,vh,vr,vb,va,zI K.gone,zI K.new,zI K.af,vf]=vS'::vT'::vU::r→nO aI v (Bq K.ways w)→
  dO zT 72 [.agg ⟨[vS',v,vU]⟩,.agg ⟨[zI x.st,zI x.no,zI 0]⟩] aI [] (fun r Y=>∃a n c,r= .tuple ⟨[.slice a n c,zI 0]⟩∧∀k8,Knows k8 Y→bD k8 (.slice a n c) 3 cM (UC K.str K.ways w x)):=by
  intro t h1 h2 h3
  rw[h3]
  refine⟨by simp,fun aI hs v vS' vT' vU r he hv=>?_⟩
  simp only[List.cons.injEq] at he
  obtain⟨rfl,_,rfl,_⟩:=he
  exact ayB (hS.up hs) hO.oO hv h1 hy h2
 rcases XV hO with e| ⟨l,e⟩
 ·refine fin ⟨[],id⟩ ?_ ?_ ?_
  ·rw[e];exact⟨by simp[Bq],by simp[Bq]⟩
  ·rw[e];simp[Bq,dc]
  rw[e];rfl
 obtain⟨i,c,hi,rfl⟩:=WV e hw
 have hc:Bq K.ways [(i:Int)]=[[c]]:=by rw[e];simp only[Bq,List.zipWith_cons_cons,List.zipWith_nil_right,apt hi]
 refine fin ⟨[0],yY K.str c⟩ ?_ ?_ ?_
 ·rw[hc]
  refine⟨by simp,fun l' hl=>?_⟩
  rw[List.mem_singleton] at hl;subst hl
  exact⟨by simp,fun c' tk=>by rw[List.mem_singleton] at tk;subst tk;exact(hO.ways.2 l (by simp[e])).2 _ (zL hi)⟩
 ·rw[hc];rfl
 rw[e];simp only[UC,Int.toNat_natCast,hi]
def cU(K:aB):List bE:=(WW K).map (ku K (UC K.str K.ways))
theorem mC(h:jv K):(cU K).length≤2:=by
 rw[cU,List.length_map];exact(ado h).n.2
theorem sj(hK:fI ro l K)(hO:jv K)(hV:eE K):gL ro l K (cU K):=
 apN hK hO hV (ado hO) (adL hK hO) (amh hK hO)
def cH(K:aB):Nat:=(cA K (aC K) (bM K.gone K.new K.af) (cU K)).length
theorem H6:∀(l:List Int) (a:Int),l.foldl min a≤a∧∀x∈l,l.foldl min a≤x
 | [],a=>⟨Int.le_refl _,fun _ h=>(by cases h)⟩
 |y::l,a=>by
  obtain⟨h1,h2⟩:=H6 l (min a y)
  refine⟨by simp only[List.foldl_cons];omega,fun x hx=>?_⟩
  rcases List.mem_cons.1 hx with rfl|hx
  ·simp only[List.foldl_cons];omega
  exact h2 x hx
theorem Fg{l:List Int}(h:x∈l):qe l≤x:=by
 cases l with
 |nil=>cases h
 |cons y l=>
  rcases List.mem_cons.1 h with rfl|h
  ·exact(H6 l _).1
  exact(H6 l _).2 x h
theorem an4(hK:fI ro l K)(hO:jv K)(hV:eE K):Dh zT 48 [.agg ⟨l⟩] ro [] (fun r Y=>∃zs m e,zs.Perm (cA K (aC K) (fun _=>true) (cU K))∧Y=[]∧r= .tuple ⟨[zI m,zI e]⟩∧((zs=[]∧m=0∧e=9)∨(zs≠[]∧m=qe (zs.map Gg)∧e=0))):=
 fun fr=>Fn.mono (avs hK hV (mC hO) (sj hK hO hV) fr) fun en s' ⟨v,Y,h1,h2,zs,h3,h4,h5⟩=>⟨v,Y,h1,h2,by
  rcases h5 with ⟨h5,h6⟩| ⟨h5,h6⟩
  ·exact⟨zs,0,9,h3,h4,h6,.inl ⟨h5,rfl,rfl⟩⟩
  exact⟨zs,_,0,h3,h4,h6,.inr ⟨h5,rfl,rfl⟩⟩⟩
theorem Q9(hK:fI ro l K)(hO:jv K)(hV:eE K):Dh zT 12 [.agg ⟨l⟩] ro [] (fun r Y=>r= .tuple ⟨[zI (cH K:Int),zI 0]⟩∧Y=[]):=agB hK hV (mC hO) (sj hK hO hV)
def Il:List Int→List Int→Bool
 | [],[]=>true
 |x::l,y::m=>decide (x=y)&&Il l m
 |_,_=>false
theorem aj8:∀ {l m:List Int},¬l.length=m.length→Il l m=false
 | [],[],h=>absurd rfl h
 | [],_::_,_=>rfl
 |_::_,[],_=>rfl
 |x::l,y::m,h=>by rw[Il,aj8 (l:=l) (m:=m) (by simpa using h),Bool.and_false]
theorem aj9(hx:xs[k]?=some x) (hy:ys[k]?=some y):Il (xs.drop k) (ys.drop k)=(decide (x=y)&&Il (xs.drop (k+1)) (ys.drop (k+1))):=by rw[fx hx,fx hy];rfl
theorem apl(hx:¬k <xs.length)(h:xs.length=ys.length):Il (xs.drop k) (ys.drop k)=true:=by rw[eA hx,eA (by omega)];rfl
def EU:List (List Int)→List (List Int)→Bool
 | [],[]=>true
 |x::l,y::m=>Il x y&&EU l m
 |_,_=>false
theorem Zo:∀ {l m:List (List Int)},¬l.length=m.length→EU l m=false
 | [],[],h=>absurd rfl h
 | [],_::_,_=>rfl
 |_::_,[],_=>rfl
 |x::l,y::m,h=>by rw[EU,Zo (l:=l) (m:=m) (by simpa using h),Bool.and_false]
theorem Zp{xs ys:List (List Int)}{x y:List Int}(hx:xs[k]?=some x) (hy:ys[k]?=some y):EU (xs.drop k) (ys.drop k)=(Il x y&&EU (xs.drop (k+1)) (ys.drop (k+1))):=by rw[fx hx,fx hy];rfl
theorem aj7{xs ys:List (List Int)}(hx:¬k <xs.length)(h:xs.length=ys.length):EU (xs.drop k) (ys.drop k)=true:=by rw[eA hx,eA (by omega)];rfl
def uX:List Int→List Int→Int
 | [],[]=>0
 | [],_::_=> -1
 |_::_,[]=>1
 |x::xs,y::ys=>if qV x y=0 then uX xs ys else qV x y
theorem SP(hx:xs[k]?=some x) (hy:ys[k]?=some y):uX (xs.drop k) (ys.drop k)=if qV x y=0 then uX (xs.drop (k+1)) (ys.drop (k+1)) else qV x y:=by rw[fx hx,fx hy];rfl
theorem acb(hx:xs[k]?=some x) (hy:¬k <ys.length):uX (xs.drop k) (ys.drop k)=1:=by rw[fx hx,eA hy];rfl
theorem Mz(hx:¬k <xs.length):uX (xs.drop k) (ys.drop k)=if k <ys.length then-1 else 0:=by
 rw[eA hx]
 split
 ·rename_i h
  rw[List.drop_eq_getElem_cons h];rfl
 rename_i h
 rw[eA h];rfl
def lY(f:Int):Nat→List Int
 |0=>[]
 |k+1=>lY f k++(bif hasB f k then [(k:Int)] else [])
theorem anN(h:hasB f (k:Int)=true):lY f (k+1)=lY f k++[(k:Int)]:=by rw[lY,h];rfl
theorem anO(h:hasB f (k:Int)=false):lY f (k+1)=lY f k:=by rw[lY,h];exact List.append_nil _
theorem LI(f:Int)(n:Nat):(lY f n).length≤n:=by
 induction n with
 |zero=>exact Nat.le_refl _
 |succ n ih=>rw[lY,List.length_append];cases hasB f (n:Int)<;>simp<;>omega
def yS(f:Int):Int:=([0,1,1,2,1,2,2,3,1,2,2,3,2,3,3,4]:List Int).getD f.toNat 0
theorem XO(h:0≤f∧f <16):0≤yS f∧yS f≤8:=by
 obtain⟨n,rfl⟩:=Int.eq_ofNat_of_zero_le h.1
 have h2:n <16:=by omega
 revert h2
 exact(by decide:∀n:Nat,n <16→0≤yS (n:Int)∧yS (n:Int)≤8) n
def SN(x y:Int):Int:=if yS x-yS y=0 then uX (lY x 4) (lY y 4) else yS x-yS y
theorem akg{v w:Value}(hv:bD ro v 1 cm xs)(hw:bD ro w 1 cm ys)(hx:xs.length≤1000)(hy:ys.length≤1000):dv zT 25 [v,w] ro (.bool (Il xs ys)):=by
 obtain⟨I6,qvb,qvo,yf,rfl,qvk,Nb,Na⟩:=hv
 obtain⟨Qj,qwb,qwo,I5,rfl,qwk,qwh,qwl⟩:=hw
 refine zE<|zD 13<|js 10 (!decide ((xs.length:Int)=(ys.length:Int))) (fun h1=>?_) (fun h1=>?_)
 ·
  replace h1:=of_decide_eq_false (by simpa using h1)
  refine zD 6<|zX (.bool false) ⟨by rw[aj8 (by omega)],rfl⟩
 replace h1:=of_decide_eq_true (by simpa using h1)
 refine zD 8<|dP [1,1,0,1,0,0] [] (fun(zz:Nat)=>[(0,.slice I6 xs.length yf),(1,.slice Qj ys.length I5),(5,zI (zz:Int))]) (fun zz=>[]) (fun zz=>zz≤xs.length∧Il xs ys=Il (xs.drop zz) (ys.drop zz)) (fun zz=>xs.length-zz) 0 ⟨by omega,rfl⟩ [] ?_
 rintro k hI K1 bH rest
 refine zD 8<|zJ 14 ((k:Int) <(xs.length:Int)) (fun h2=>?_) fun h2=>?_
 ·
  refine zD 8 ?_
  obtain⟨yc,ui⟩:=zG xs k
  refine ek yf 1 Nb ui<|jl 0 (Na _ _ ui)<|zD 2 ?_
  obtain⟨vk,tb⟩:=zG ys k
  refine ek I5 1 qwh tb<|jl 0 (qwl _ _ tb)<|zD 2<|js 25 (!decide (yc=vk)) (fun h3=>?_) (fun h3=>?_)
  ·
   replace h3:=of_decide_eq_false (by simpa using h3)
   refine zD 6<|zX (.bool false) ⟨by rw[hI.2,aj9 ui tb,decide_eq_false (by omega),Bool.false_and],rfl⟩
  replace h3:=of_decide_eq_true (by simpa using h3)
  refine zD 4<|ja ((k:Int)+1) (by omega)<|zD 2<|bI bH (k+1) ⟨by omega,by rw[hI.2,aj9 ui tb,decide_eq_true (by omega),Bool.true_and]⟩ (by omega) [] (Sub.refl _)
 refine zD 7<|zX (.bool true) ⟨by rw[hI.2,apl (by omega) (by omega)],rfl⟩
theorem aE5{v w:Value}(hv:bD ro v 1 cm xs)(hw:bD ro w 1 cm ys)(hx:xs.length≤1000)(hy:ys.length≤1000):dv zT 88 [v,w] ro (zI (uX xs ys)):=by
 obtain⟨I6,qvb,qvo,yf,rfl,qvk,Nb,Na⟩:=hv
 obtain⟨Qj,qwb,qwo,I5,rfl,qwk,qwh,qwl⟩:=hw
 refine zE<|zD 12<|dP [1,0,1,0,0] [] (fun(zz:Nat)=>[(0,.slice I6 xs.length yf),(1,.slice Qj ys.length I5),(9,.slice I6 xs.length yf),(10,zI (xs.length:Int)),(11,zI (zz:Int))]) (fun zz=>[]) (fun zz=>(zz≤xs.length∧zz≤ys.length)∧uX xs ys=uX (xs.drop zz) (ys.drop zz)) (fun zz=>xs.length-zz) 0 ⟨by omega,rfl⟩ [] ?_
 rintro k hI K1 bH rest
 refine zD 5<|zJ 12 ((k:Int) <(xs.length:Int)) (fun h1=>?_) fun h1=>?_
 ·
  refine zD 7 ?_
  obtain⟨fJ,eI⟩:=zG xs k
  refine ek yf 1 Nb eI<|jl 0 (Na _ _ eI)<|zD 11<|zJ 19 ((k:Int)≥(ys.length:Int)) (fun h2=>?_) fun h2=>?_
  ·
   refine zD 6<|zX (zI 1) ⟨by rw[hI.2,acb eI (by omega)],rfl⟩
  refine zD 6 ?_
  obtain⟨su,uh⟩:=zG ys k
  refine ek I5 1 qwh uh<|jl 0 (qwl _ _ uh)<|zD 6<|jp (vs:=[zI fJ,zI su]) [] [] (fun aI hs hZ=>ayH)<|zD 7<|js 28 (!decide ((qV fJ su)=0)) (fun h3=>?_) (fun h3=>?_)
  ·
   replace h3:=of_decide_eq_false (by simpa using h3)
   refine zD 7<|zX (zI (qV fJ su)) ⟨by rw[hI.2,SP eI uh,if_neg (by omega)],rfl⟩
  replace h3:=of_decide_eq_true (by simpa using h3)
  refine zD 3<|ja ((k:Int)+1) (by omega)<|zD 2<|bI bH (k+1) ⟨by omega,by rw[hI.2,SP eI uh,if_pos (by omega)]⟩ (by omega) [] (Sub.refl _)
 refine zD 11<|zJ 35 ((xs.length:Int) <(ys.length:Int)) (fun h4=>?_) fun h4=>?_
 ·
  refine zD 6<|zX (zI (-1)) ⟨by rw[hI.2,Mz (by omega),if_pos (by omega)],rfl⟩
 refine zD 7<|zX (zI 0) ⟨by rw[hI.2,Mz (by omega),if_neg (by omega)],rfl⟩
theorem ajT:dO zT 63 [.int .u8 f] ro [] (fun r Y=>∃L,ax r 1 3 cm (lY f 4) L∧Y=L):=by
 refine zE<|zD 14<|nY<|dP [1,1,0,1,0,0] [] (fun(zz:Nat×Value×Cells)=>[(0,.int .u8 f),(2,zS),(3,zz.2.1),(5,zI (zz.1:Int))]) (fun zz=>[.l zz.2.2]) (fun zz=>zz.1≤4∧ax zz.2.1 1 3 cm (lY f zz.1) zz.2.2) (fun zz=>4-zz.1) (⟨0,zS,[]⟩) ⟨by dsimp only;omega,ax.nil _ _ _⟩ [0] ?_
 rintro⟨k,v,L⟩ hI K1 bH rest
 dsimp only at hI
 have hll:=LI f k
 refine zD 5<|zJ 6 ((k:Int) <4) (fun h1=>?_) fun h1=>?_
 ·
  refine zD 13<|jp (vs:=[.int .u8 f,zI (k:Int)]) [] [] (fun aI hs hZ=>(avv (by omega)))<|zD 1<|js 10 (hasB f (k:Int)) (fun h2=>?_) (fun h2=>?_)
  ·
   refine zD 4<|jn fun Ak=>iC (sz:=1) (ps:=(lY f k)) (qs:=[(k:Int)]) (enc:=cm) (w:= .slice (some ⟨Ak,0,none⟩) 1 1) [1] [0] [(Ak,.cells ⟨([(k:Int)].map cm).flatten⟩ 3 (0,0))] (hI.2) (fun s _ hZ=>bK [(k:Int)] (hZ _ (.head _)) (by intro p hp;rfl)) (fun p _=>aj rfl) (by simp<;>omega) (fun v14 L14 uo=>?_)
   obtain⟨FT,Eh,u7⟩:=uo.form
   subst u7
   refine zD 3<|ja ((k:Int)+1) (by omega)<|zD 2<|bI bH (⟨k+1,(.slice FT (((lY f k)++[(k:Int)])).length Eh),L14⟩) ⟨by dsimp only;omega,by dsimp only;rw[anN (by assumption)];exact uo⟩ (by dsimp only;omega) [0] (Sub.refl _)
  refine zD 3<|ja ((k:Int)+1) (by omega)<|zD 2<|bI bH (⟨k+1,v,L⟩) ⟨by dsimp only;omega,by dsimp only;rw[anO (by assumption)];exact hI.2⟩ (by dsimp only;omega) [0] (Sub.refl _)
 refine zD 8<|zR (v) [] [0] L ⟨_,(by rw[←show k=4 by omega];exact hI.2),rfl⟩
theorem avo:dv zT 91 [.int .u8 0] ro (zI 0):=by
 refine zE<|zD 12<|zX (zI 0) ⟨rfl,rfl⟩
theorem avn:dv zT 91 [.int .u8 1] ro (zI 1):=by
 refine zE<|zD 12<|zX (zI 1) ⟨rfl,rfl⟩
theorem avm:dv zT 91 [.int .u8 2] ro (zI 1):=by
 refine zE<|zD 12<|zX (zI 1) ⟨rfl,rfl⟩
theorem avl:dv zT 91 [.int .u8 3] ro (zI 2):=by
 refine zE<|zD 12<|zX (zI 2) ⟨rfl,rfl⟩
theorem avk:dv zT 91 [.int .u8 4] ro (zI 1):=by
 refine zE<|zD 12<|zX (zI 1) ⟨rfl,rfl⟩
theorem avj:dv zT 91 [.int .u8 5] ro (zI 2):=by
 refine zE<|zD 12<|zX (zI 2) ⟨rfl,rfl⟩
theorem avi:dv zT 91 [.int .u8 6] ro (zI 2):=by
 refine zE<|zD 12<|zX (zI 2) ⟨rfl,rfl⟩
theorem avh:dv zT 91 [.int .u8 7] ro (zI 3):=by
 refine zE<|zD 12<|zX (zI 3) ⟨rfl,rfl⟩
theorem avg:dv zT 91 [.int .u8 8] ro (zI 1):=by
 refine zE<|zD 12<|zX (zI 1) ⟨rfl,rfl⟩
theorem avf:dv zT 91 [.int .u8 9] ro (zI 2):=by
 refine zE<|zD 12<|zX (zI 2) ⟨rfl,rfl⟩
theorem an0:dv zT 91 [.int .u8 10] ro (zI 2):=by
 refine zE<|zD 12<|zX (zI 2) ⟨rfl,rfl⟩
theorem anZ:dv zT 91 [.int .u8 11] ro (zI 3):=by
 refine zE<|zD 12<|zX (zI 3) ⟨rfl,rfl⟩
theorem anY:dv zT 91 [.int .u8 12] ro (zI 2):=by
 refine zE<|zD 12<|zX (zI 2) ⟨rfl,rfl⟩
theorem anX:dv zT 91 [.int .u8 13] ro (zI 3):=by
 refine zE<|zD 12<|zX (zI 3) ⟨rfl,rfl⟩
theorem anW:dv zT 91 [.int .u8 14] ro (zI 3):=by
 refine zE<|zD 12<|zX (zI 3) ⟨rfl,rfl⟩
theorem anV:dv zT 91 [.int .u8 15] ro (zI 4):=by
 refine zE<|zD 12<|zX (zI 4) ⟨rfl,rfl⟩
theorem ard(h:0≤f∧f <16):dv zT 91 [.int .u8 f] ro (zI (yS f)):=by
 obtain rfl|rfl|rfl|rfl|rfl|rfl|rfl|rfl|rfl|rfl|rfl|rfl|rfl|rfl|rfl|rfl:=(by omega:f=0∨f=1∨f=2∨f=3∨f=4∨f=5∨f=6∨f=7∨f=8∨f=9∨f=10∨f=11∨f=12∨f=13∨f=14∨f=15)
 ·exact avo
 ·exact avn
 ·exact avm
 ·exact avl
 ·exact avk
 ·exact avj
 ·exact avi
 ·exact avh
 ·exact avg
 ·exact avf
 ·exact an0
 ·exact anZ
 ·exact anY
 ·exact anX
 ·exact anW
 exact anV
def LL(ro:Nat→Option Obj)(v:Value)(W:List (List Int)):Prop:=∃ws,bD ro v 1 fH ws∧de (fun w l=>bD ro w 1 cm l) ws W
theorem ayS{v w:Value}{ws us:List Value}{W U:List (List Int)}(hv:bD ro v 1 fH ws)(hw:bD ro w 1 fH us)(ha:de (fun w l=>bD ro w 1 cm l) ws W)(hb:de (fun w l=>bD ro w 1 cm l) us U)(hx:W.length≤1000)(hy:U.length≤1000)(hW:∀l∈W,l.length≤1000)(hU:∀l∈U,l.length≤1000):dv zT 51 [v,w] ro (.bool (EU W U)):=by
 obtain⟨I6,qvb,qvo,yf,rfl,qvk,Nb,Na⟩:=hv
 obtain⟨Qj,qwb,qwo,I5,rfl,qwk,qwh,qwl⟩:=hw
 have hla:=ha.len
 have hlb:=hb.len
 refine zE<|zD 13<|js 10 (!decide ((ws.length:Int)=(us.length:Int))) (fun h1=>?_) (fun h1=>?_)
 ·
  replace h1:=of_decide_eq_false (by simpa using h1)
  refine zD 6<|zX (.bool false) ⟨by rw[Zo (by omega)],rfl⟩
 replace h1:=of_decide_eq_true (by simpa using h1)
 refine zD 8<|dP [1,1,0,1,0,0] [] (fun(zz:Nat)=>[(0,.slice I6 ws.length yf),(1,.slice Qj us.length I5),(5,zI (zz:Int))]) (fun zz=>[]) (fun zz=>zz≤W.length∧EU W U=EU (W.drop zz) (U.drop zz)) (fun zz=>W.length-zz) 0 ⟨by omega,rfl⟩ [] ?_
 rintro k hI K1 bH rest
 refine zD 8<|zJ 14 ((k:Int) <(ws.length:Int)) (fun h2=>?_) fun h2=>?_
 ·
  refine zD 8 ?_
  obtain⟨yc,ui⟩:=zG ws k
  refine ek yf 1 Nb ui ?_
  obtain⟨l20,aw2,h20⟩:=ha.get ui
  obtain awU:=hW _ (zL aw2)
  obtain⟨aDg,aN9,aN5,aDf,rfl,aN7,aN8,aN6⟩:=h20
  refine jl 0 (Na _ _ ui)<|zD 2 ?_
  obtain⟨vk,tb⟩:=zG us k
  refine ek I5 1 qwh tb ?_
  obtain⟨UX,Vt,h24⟩:=hb.get tb
  obtain aGf:=hU _ (zL Vt)
  obtain⟨aun,aC9,aC7,aeN,rfl,aC8,am8,am7⟩:=h24
  refine jl 0 (qwl _ _ tb)<|jp (vs:=[.slice aDg l20.length aDf,.slice aun UX.length aeN]) [] [] (fun aI hs hZ=>akg ((show bD _ _ _ _ _ from ⟨aDg,aN9,aN5,aDf,rfl,aN7,aN8,aN6⟩).up hs) ((show bD _ _ _ _ _ from ⟨aun,aC9,aC7,aeN,rfl,aC8,am8,am7⟩).up hs) awU aGf)<|zD 2<|js 26 (!(Il l20 UX)) (fun h3=>?_) (fun h3=>?_)
  ·
   try simp only[zB] at h3
   refine zD 6<|zX (.bool false) ⟨by rw[hI.2,Zp aw2 Vt];simp_all,rfl⟩
  try simp only[zB] at h3
  refine zD 4<|ja ((k:Int)+1) (by omega)<|zD 2<|bI bH (k+1) ⟨by omega,by rw[hI.2,Zp aw2 Vt];simp_all⟩ (by omega) [] (Sub.refl _)
 refine zD 7<|zX (.bool true) ⟨by rw[hI.2,aj7 (by omega) (by omega)],rfl⟩
theorem Q3:(lY f 4).length≤1000:=Nat.le_trans (LI f 4) (by decide)
def Ex:Nat→List Int→List Int
 |0,ys=>ys
 |j+1,ys=>if SN (ys.getD (j+1) 0) (ys.getD j 0) <0 then Ex j ((ys.set (j+1) (ys.getD j 0)).set j (ys.getD (j+1) 0)) else ys
def Gj:Nat→Nat→List Int→List Int
 |0,_,ys=>ys
 |n+1,i,ys=>Gj n (i+1) (Ex i ys)
def Du(xs:List Int):List Int:=Gj (xs.length-1) 1 xs
theorem abl(h:¬j>0):Ex j.toNat ys=ys:=by rw[show j.toNat=0 by omega];rfl
theorem apc(h:ys[i]?=some x):ys.getD i 0=x:=by rw[List.getD_eq_getElem?_getD,h];rfl
theorem abm(hj:j>0)(hx:ys[j.toNat]?=some x) (hy:ys[(j-1).toNat]?=some y) (h:¬SN x y <0):Ex j.toNat ys=ys:=by
 have e:j.toNat=(j-1).toNat+1:=by omega
 rw[e] at hx ⊢
 rw[Ex,apc hx,apc hy,if_neg h]
theorem Yw{x' y':Int}(hj:j>0)(hx:ys[j.toNat]?=some x) (hy:ys[(j-1).toNat]?=some y) (lM:ys[j.toNat]?=some x') (hy':ys[(j-1).toNat]?=some y') (h:SN x y <0):Ex j.toNat ys=Ex (j-1).toNat ((ys.set j.toNat y').set (j-1).toNat x'):=by
 rw[hx] at lM;rw[hy] at hy';cases lM;cases hy'
 have e:j.toNat=(j-1).toNat+1:=by omega
 rw[e] at hx ⊢
 rw[Ex,apc hx,apc hy,if_pos h]
def OQ(v:Value)(xs:List Int)(Y:Cells):Prop:=∃ys,ys=Du xs∧ax v 1 105 Ty ys Y
theorem Ub{i:Int}(h:Du xs=Gj (n-i.toNat) i.toNat ys)(hi:0≤i∧i <n):Du xs=Gj (n-(i+1).toNat) (i+1).toNat (Ex i.toNat ys):=by
 rw[h,show n-i.toNat=(n-(i+1).toNat)+1 by omega,show (i+1).toNat=i.toNat+1 by omega];rfl
theorem aan{i:Int}(h:Du xs=Gj (n-i.toNat) i.toNat ys)(hi:¬i <n):ys=Du xs:=by
 rw[h,show n-i.toNat=0 by omega];rfl
theorem aOS(hx:0≤x∧x <16)(hy:0≤y∧y <16):dv zT 90 [.int .u8 x,.int .u8 y] ro (zI (SN x y)):=by
 have hpx:=XO hx
 have hpy:=XO hy
 refine zE<|zD 8<|jp (vs:=[.int .u8 x]) [] [] (fun aI hs hZ=>(ard hx))<|zD 1<|jp (vs:=[.int .u8 y]) [] [] (fun aI hs hZ=>(ard hy))<|ja ((yS x)-(yS y)) (by omega)<|zD 7<|js 12 (!decide (((yS x)-(yS y))=0)) (fun h1=>?_) (fun h1=>?_)
 ·
  replace h1:=of_decide_eq_false (by simpa using h1)
  refine zD 7<|zX (zI ((yS x)-(yS y))) ⟨by rw[SN,if_neg (by omega)],rfl⟩
 replace h1:=of_decide_eq_true (by simpa using h1)
 refine zD 5<|jc (vs:=[.int .u8 x]) [] (ajT) ?_
 rintro v15 L15 ⟨_,awI,rfl⟩
 refine zD 1<|jc (vs:=[.int .u8 y]) [] (ajT) ?_
 rintro v17 L17 ⟨_,CH,rfl⟩
 refine jp (vs:=[v15,v17]) [1,0] (L15++L17) (fun aI hs hZ=>aE5 (awI.kg hZ.left) (CH.kg hZ.right) Q3 Q3)<|zD 3<|zX (zI (uX (lY x 4) (lY y 4))) ⟨by rw[SN,if_pos (by omega)],rfl⟩
theorem aOR{v:Value}{L:Cells}(ho:ax v 1 105 Ty xs L)(hN:xs.length≤12)(hM:∀m∈xs,0≤m∧m <16):dO zT 152 [v,zI 0,zI (xs.length:Int),.func (.func 90) ⟨[]⟩ ⟨[]⟩] ro L (fun r Y=>OQ v xs Y):=by
 refine zC [.l L]<|zD 7<|dP [1,0,0] [] (fun(zz:Int×(List Int)×Cells)=>[(0,v),(1,zI 0),(2,zI (xs.length:Int)),(3,.func (.func 90) ⟨[]⟩ ⟨[]⟩),(8,zI zz.1)]) (fun zz=>[.l zz.2.2]) (fun zz=>(1≤zz.1)∧ax v 1 105 Ty zz.2.1 zz.2.2∧zz.2.1.Perm xs∧Du xs=Gj (xs.length-zz.1.toNat) zz.1.toNat zz.2.1) (fun zz=>((xs.length:Int)-zz.1).toNat) (⟨1,xs,L⟩) ⟨by dsimp only;omega,ho,.refl _,rfl⟩ [0] ?_
 rintro⟨i,ys,L⟩ hI K1 bH rest
 dsimp only at hI
 have YA:=hI.2.2.1.length_eq
 have hym:∀m∈ys,0≤m∧m <16:=fun m hm=>hM m (hI.2.2.1.mem_iff.1 hm)
 refine zD 7<|zJ 14 (i <(xs.length:Int)) (fun h1=>?_) fun h1=>?_
 ·
  refine zD 10<|dP [1,0,0,1,0,0,1,0,0] [K1] (fun(zz:Int×(List Int)×Cells)=>[(0,v),(1,zI 0),(2,zI (xs.length:Int)),(3,.func (.func 90) ⟨[]⟩ ⟨[]⟩),(8,zI i),(9,zI zz.1)]) (fun zz=>[.l zz.2.2]) (fun zz=>(0≤zz.1∧zz.1≤i)∧ax v 1 105 Ty zz.2.1 zz.2.2∧zz.2.1.Perm xs∧Du xs=Gj (xs.length-(i+1).toNat) (i+1).toNat (Ex zz.1.toNat zz.2.1)) (fun zz=>zz.1.toNat) (⟨i,ys,L⟩) ⟨by dsimp only;omega,hI.2.1,hI.2.2.1,Ub hI.2.2.2 (by omega)⟩ [0] ?_
  rintro⟨j,ys,L⟩ hJ K2 mr rest
  dsimp only at hJ
  have YA:=hJ.2.2.1.length_eq
  have hym:∀m∈ys,0≤m∧m <16:=fun m hm=>hM m (hJ.2.2.1.mem_iff.1 hm)
  refine zD 7<|js 3 (decide (j>0)) (fun h2=>?_) (fun h2=>?_)
  ·
   have mv:=h2
   replace mv:=of_decide_eq_true mv
   refine zD 3 ?_
   obtain⟨yB,lv⟩:=zG ys (j.toNat) (by first|omega| (simp only[List.length_set];omega))
   refine qi j 1 hJ.2.1 lv (Int.toNat_of_nonneg (show 0≤j∧j <((ys).length:Int) from (by first|omega| (simp only[List.length_set];omega))).1).symm (fun n8 aiD=>?_)
   refine pg 0 [0] L (fun s _ hZ=>cK hJ.2.1 aiD hZ lv)<|zD 2<|ja (j-1) (by omega) ?_
   obtain⟨od,iW⟩:=zG ys ((j-1).toNat) (by first|omega| (simp only[List.length_set];omega))
   refine qi (j-1) 1 hJ.2.1 iW (Int.toNat_of_nonneg (show 0≤(j-1)∧(j-1) <((ys).length:Int) from (by first|omega| (simp only[List.length_set];omega))).1).symm (fun b30 VF=>?_)
   refine pg 0 [0] L (fun s _ hZ=>cK hJ.2.1 VF hZ iW)<|aV 14 fun pW pZ oU=>jp (vs:=[.int .u8 yB,.int .u8 od]) [] [] (fun aI hs hZ=>(aOS (hym _ (zL lv)) (hym _ (zL iW))))<|eH oU [0]<|zD 3<|zJ 34 ((SN yB od) <0) (fun h4=>?_) fun h4=>?_
   ·
    refine zD 9<|ja (j-1) (by omega)<|zD 2<|ja (j-1) (by omega) ?_
    obtain⟨xR,ED⟩:=zG ys ((j-1).toNat) (by first|omega| (simp only[List.length_set];omega))
    refine qi (j-1) 1 hJ.2.1 ED (Int.toNat_of_nonneg (show 0≤(j-1)∧(j-1) <((ys).length:Int) from (by first|omega| (simp only[List.length_set];omega))).1).symm (fun b45 aiC=>?_)
    refine pg 0 [0] L (fun s _ hZ=>cK hJ.2.1 aiC hZ ED)<|zD 2 ?_
    obtain⟨Ju,EC⟩:=zG ys (j.toNat) (by first|omega| (simp only[List.length_set];omega))
    refine qi j 1 hJ.2.1 EC (Int.toNat_of_nonneg (show 0≤j∧j <((ys).length:Int) from (by first|omega| (simp only[List.length_set];omega))).1).symm (fun b49 aiB=>?_)
    refine pg 0 [0] L (fun s _ hZ=>cK hJ.2.1 aiB hZ EC) ?_
    obtain⟨x51,EB⟩:=zG ys (j.toNat) (by first|omega| (simp only[List.length_set];omega))
    refine qi j 1 hJ.2.1 EB (Int.toNat_of_nonneg (show 0≤j∧j <((ys).length:Int) from (by first|omega| (simp only[List.length_set];omega))).1).symm (fun b51 aiA=>?_)
    refine aV 15 fun rI rK qu=>Tj 0 0 [.int .u8 xR] xR hJ.2.1 aiA EB rfl rfl (Nat.le_of_ble_eq_true rfl) fun L6 ho7=>gM qu [] ?_
    obtain⟨x52,wq⟩:=zG ((ys.set j.toNat xR)) ((j-1).toNat) (by first|omega| (simp only[List.length_set];omega))
    refine qi (j-1) 1 ho7 wq (Int.toNat_of_nonneg (show 0≤(j-1)∧(j-1) <(((ys.set j.toNat xR)).length:Int) from (by first|omega| (simp only[List.length_set];omega))).1).symm (fun b52 aiz=>?_)
    refine aV 17 fun An Ay Ba=>Tj 0 0 [.int .u8 Ju] Ju ho7 aiz wq rfl rfl (Nat.le_of_ble_eq_true rfl) fun L9 ahW=>gq Ba<|zD 3<|ja (j-1) (by omega)<|zD 2<|bI mr (⟨(j-1),((ys.set j.toNat xR).set ((j-1).toNat) Ju),L9⟩) ⟨by dsimp only;omega,ahW,(nD EC ED).trans hJ.2.2.1,by dsimp only;rw[hJ.2.2.2,Yw (by omega) lv iW EC ED (by assumption)]⟩ (by dsimp only;omega) [0] (Sub.refl _)
   refine zD 4<|ja (i+1) (by omega)<|zD 2<|bI bH (⟨(i+1),ys,L⟩) ⟨by dsimp only;omega,hJ.2.1,hJ.2.2.1,by dsimp only;rw[hJ.2.2.2,abm (by omega) lv iW (by assumption)]⟩ (by dsimp only;omega) [0] (Sub.refl _)
  have mv:=h2
  replace mv:=of_decide_eq_false mv
  refine zD 18<|ja (i+1) (by omega)<|zD 2<|bI bH (⟨(i+1),ys,L⟩) ⟨by dsimp only;omega,hJ.2.1,hJ.2.2.1,by dsimp only;rw[hJ.2.2.2,abl (by omega)]⟩ (by dsimp only;omega) [0] (Sub.refl _)
 refine zD 2<|zR (.tuple ⟨[]⟩) [] [0] L ⟨ys,aan hI.2.2.2 (by omega),hI.2.1⟩
theorem apS(h:K.facts.length≤3):IntKind.u8.wrap (aC K+1)=((2^K.facts.length:Nat):Int):=by
 unfold aC
 generalize K.facts.length=n at h
 obtain rfl|rfl|rfl|rfl:n=0∨n=1∨n=2∨n=3:=by omega
 all_goals decide
theorem anc(h:n≤3):2^n≤8:=by
 obtain rfl|rfl|rfl|rfl:n=0∨n=1∨n=2∨n=3:=by omega
 all_goals decide
theorem aBB(h:n≤255):Value.int .u8 (IntKind.u8.wrap (n:Int))= .int .u8 (n:Int):=by
 rw[sE .u8 rfl _ (by omega) (by simp[IntKind.bits];omega)]
def pf(n:Nat):List Int:=Du (cD (2^n))
theorem aaF(h:n≤8):∀m∈cD n,0≤m∧m <16:=fun m hm=>by have:=nB hm;omega
theorem aOQ{v:Value}{L:Cells}{lim:Int}(ho:ax v 1 105 Ty xs L)(hN:xs.length≤12)(hM:∀m∈xs,0≤m∧m <16):dO zT 113 [v,zI 0,zI (xs.length:Int),zI lim,.func (.func 90) ⟨[]⟩ ⟨[]⟩] ro L (fun r Y=>OQ v xs Y):=by
 refine zC [.l L]<|zD 9<|dP [1,1,0,0] [] (fun(zz:Nat)=>[(0,v),(1,zI 0),(2,zI (xs.length:Int)),(3,zI lim),(4,.func (.func 90) ⟨[]⟩ ⟨[]⟩),(10,.bool true),(11,.bool true)]) (fun zz=>[.l L]) (fun zz=>True) (fun zz=>zz) 0 trivial [0] ?_
 rintro z hI K1 bH rest
 refine zD 5<|ja ((xs.length:Int)-0) (by omega)<|zD 8<|zJ 25 (((xs.length:Int)-0)≤12) (fun h1=>?_) fun h1=>?_
 ·
  refine zD 7<|jc (vs:=[v,zI 0,zI (xs.length:Int),.func (.func 90) ⟨[]⟩ ⟨[]⟩]) [0] (aOR ho hN hM) ?_
  rintro aCk Y30 ⟨aLy,awB,CG⟩
  refine zD 2<|zR (.tuple ⟨[]⟩) [] [0] Y30 ⟨_,awB,CG⟩
 exfalso;omega
theorem aEs{v:Value}{L:Cells}(ho:ax v 1 105 Ty xs L)(hN:xs.length≤12)(hM:∀m∈xs,0≤m∧m <16):dO zT 89 [v,.func (.func 90) ⟨[]⟩ ⟨[]⟩] ro L (fun r Y=>OQ v xs Y):=by
 refine zC [.l L]<|zD 3<|DL ho<|zD 6<|je (zU (xs.length:Int)) (adk (by omega))<|jp (vs:=[zU (xs.length:Int)]) [] [] (fun aI hs hZ=>(ayG (by omega)))<|zD 1<|jc (vs:=[v,zI 0,zI (xs.length:Int),zI (abc xs.length),.func (.func 90) ⟨[]⟩ ⟨[]⟩]) [0] (aOQ ho hN hM) ?_
 rintro aCl Y13 ⟨aLA,abx,Vp⟩
 refine zD 1<|zR (.tuple ⟨[]⟩) [] [0] Y13 ⟨_,abx,Vp⟩
theorem aIk{f:Nat}{rows:List bE}(hF:oX ro f K rows)(hV:eE K)(hn3:K.facts.length≤3):dO zT 61 [zP f] ro [] (fun r Y=>∃L,ax r 1 105 Ty (pf K.facts.length) L∧Y=L):=by
 have hp8:=anc hn3
 refine zE<|zD 12<|jp (vs:=[zP f]) [] [] (fun aI hs hZ=>DK hV (hF.up hs))<|je (.int .u8 ((2^K.facts.length:Nat):Int)) (congrArg (Value.int .u8) (apS hn3))<|zD 3<|nY<|dP [1,1,0,1,0,0] [] (fun(zz:Nat×Value×Cells)=>[(2,zS),(3,zz.2.1),(7,.int .u8 ((2^K.facts.length:Nat):Int)),(8,.int .u8 (zz.1:Int))]) (fun zz=>[.l zz.2.2]) (fun zz=>zz.1≤2^K.facts.length∧ax zz.2.1 1 105 Ty (cD zz.1) zz.2.2) (fun zz=>2^K.facts.length-zz.1) (⟨0,zS,[]⟩) ⟨Nat.zero_le _,ax.nil _ _ _⟩ [0] ?_
 rintro⟨k,v,L⟩ hI K1 bH rest
 dsimp only at hI
 have hrl:=gP k
 refine zD 5<|zJ 9 ((k:Int) <((2^K.facts.length:Nat):Int)) (fun h1=>?_) fun h1=>?_
 ·
  refine zD 12<|jn fun Ak=>iC (sz:=1) (ps:=(cD k)) (qs:=[(k:Int)]) (enc:=Ty) (w:= .slice (some ⟨Ak,0,none⟩) 1 1) [1] [0] [(Ak,.cells ⟨([(k:Int)].map Ty).flatten⟩ 105 (0,0))] (hI.2) (fun s _ hZ=>bK [(k:Int)] (hZ _ (.head _)) (by intro p hp;rfl)) (fun p _=>aj rfl) (by simp<;>omega) (fun v14 L14 uo=>?_)
  obtain⟨FT,Eh,u7⟩:=uo.form
  subst u7
  refine zD 3<|je (.int .u8 ((k:Int)+1)) (aBB (n:=k+1) (by omega))<|zD 2<|bI bH (⟨k+1,(.slice FT (((cD k)++[(k:Int)])).length Eh),L14⟩) ⟨by dsimp only;omega,by dsimp only;rw[vM];exact uo⟩ (by dsimp only;omega) [0] (Sub.refl _)
 refine zD 5<|jc (vs:=[v,.func (.func 90) ⟨[]⟩ ⟨[]⟩]) [0] (aEs hI.2 (by rw[gP];omega) (aaF (by omega))) ?_
 rintro ba3 Y17 ⟨aZ4,aQE,CH⟩
 refine zD 7<|zR (v) [] [0] Y17 ⟨_,by rw[pf,show 2^K.facts.length=k by omega,←aQE];exact CH,rfl⟩
def Kh(K:aB)(rows:List bE)(p:Nat→Int):Nat→Bool
 |0=>false
 |i+1=>Kh K rows p i||bM K.gone K.new K.af (bx K ((rows[i]?).getD ⟨fun _ _=>false⟩) i p)
theorem ZM{rows:List bE}{p:Nat→Int}{r:bE}(h:rows[i]?=some r):Kh K rows p (i+1)=(Kh K rows p i||bM K.gone K.new K.af (bx K r i p)):=by rw[Kh,h];rfl
theorem apR{rows:List bE}{p:Nat→Int}(h:Kh K rows p i=true)(hn:i≤n):Kh K rows p n=true:=by
 induction n with
 |zero=>rwa[show i=0 by omega] at h
 |succ n ih=>
  by_cases e:i=n+1
  ·rwa[e] at h
  rw[Kh,ih (by omega),Bool.true_or]
def acg(K:aB)(rows:List bE)(on:Int):Bool:=(aN K on).any fun p=>Kh K rows p rows.length
theorem akT{f:α→Bool}{l:List α}{x:α}(h:l[k]?=some x) (h1:(l.take k).any f=false) (h2:f x=false):(l.take (k+1)).any f=false:=by
 rw[gE h,List.any_append,h1,List.any_cons,h2];rfl
theorem aUm{f:Nat}{rows:List bE}{on:Int}(hF:oX ro f K rows)(hV:eE K)(hR:rows.length≤1000):dO zT 62 [zP f,.int .u8 on] ro [] (fun r Y=>r= .bool (acg K rows on)∧Y=[]):=by
 obtain⟨c0,c1,c2,vc,vh,vr,vb,va,vf,vt,hv,hf,pR,nj,hr,CN,HR,J2,bV⟩:=id hF
 obtain⟨hc,hh,di⟩:=id pR
 obtain⟨ep,AK,AJ,dZ,rfl,Dx,yR,yQ⟩:=hc
 obtain⟨dH,u5,u4,du,rfl,xp,qR,qQ⟩:=hh
 obtain⟨kR,I8,I7,kQ,rfl,O3,Gw,Gv⟩:=hr
 obtain⟨lg,JD,JB,ky,rfl,JC,Eo,En⟩:=CN
 obtain⟨lj,JI,JG,kz,rfl,JH,Es,Ep⟩:=HR
 obtain⟨mi,UA,Uy,lf,rfl,Uz,Ni,Nh⟩:=J2
 obtain⟨nC,Em,Ek,mW,rfl,Qk,Nd,Nc⟩:=bV
 have Tn:=hV.rules.1
 have BK:=hV.before.1
 have EJ:=hV.after.1
 have hnf:=hV.facts.1
 refine aoc au [] [] ba<|zD 2<|jn fun b2=>zD 5<|jn fun b5=>jd 9 [0,1]<|jc (vs:=[zP f,.int .u8 on]) [] (LJ (on:=on) hF hV) ?_
 rintro _ _ ⟨q1,q2,q3,q4,rfl,rfl⟩
 refine jg 0 [.b q1 (.cells ⟨[zP f]⟩ 100 (0,0)),.b q2 (.cells ⟨[.func (.func 116) ⟨[]⟩ ⟨[zP q1,zP q4]⟩]⟩ 218 (0,0)),.b q3 (.cells ⟨[.bool (dj K on 0 0),.bool (dj K on 0 1),.bool (dj K on 0 2),.bool (dj K on 0 3),.bool (dj K on 1 0),.bool (dj K on 1 1),.bool (dj K on 1 2),.bool (dj K on 1 3),.bool (dj K on 2 0),.bool (dj K on 2 1),.bool (dj K on 2 2),.bool (dj K on 2 3),.bool (dj K on 3 0),.bool (dj K on 3 1),.bool (dj K on 3 2),.bool (dj K on 3 3)]⟩ 153 (0,0)),.b q4 (.cells ⟨[.int .u8 on]⟩ 105 (0,0))]<|jf [0,1,2,3,5] ((q1,.cells ⟨[zP f]⟩ 100 (0,0))::((q2,.cells ⟨[.func (.func 116) ⟨[]⟩ ⟨[zP q1,zP q4]⟩]⟩ 218 (0,0))::((q3,.cells ⟨[.bool (dj K on 0 0),.bool (dj K on 0 1),.bool (dj K on 0 2),.bool (dj K on 0 3),.bool (dj K on 1 0),.bool (dj K on 1 1),.bool (dj K on 1 2),.bool (dj K on 1 3),.bool (dj K on 2 0),.bool (dj K on 2 1),.bool (dj K on 2 2),.bool (dj K on 2 3),.bool (dj K on 3 0),.bool (dj K on 3 1),.bool (dj K on 3 2),.bool (dj K on 3 3)]⟩ 153 (0,0))::((q4,.cells ⟨[.int .u8 on]⟩ 105 (0,0))::[(b2,.cells ⟨[zP f]⟩ 100 (0,0))])))) fun z0 bZ iQ=>zD 2<|jrf [] (Yr (on:=on) (hF.up bZ) hV (iQ _ (.head _)) (iQ _ (.tail _ (.head _))) (iQ _ (.tail _ (.tail _ (.head _)))) (iQ _ (.tail _ (.tail _ (.tail _ (.head _)))))) (by rintro _ _ _ _ ⟨_,_,rfl,_⟩;rfl) (fun(zz:Bool)=>[.b b5 (.cells ⟨[.bool zz]⟩ 4 (0,0))]) (fun kk=>(fun(zz:Bool)=>zz=false∧(((aN K on).take kk).any fun p=>Kh K rows p rows.length)=false)) (fun jump=>(fun(zz:Bool)=>jump= .exit 0∧zz=true∧acg K rows on=true)) false ⟨rfl,rfl⟩ [0] ?_ ?_ ?_
 ·
  rintro bl4 bd4 kk4 vs4 LL4 bo ro4 hk4 axr hI ki
  obtain⟨p4,hp4,rfl,rfl⟩:=axr
  have hpb:=(iP hV on).2 p4 (zL hp4)
  refine zD 1<|jn fun b6=>jd 2 [0]<|aE0<|zD 3<|jl (b:=b2) (off:=0) (m:=1) (vs:=[zP f]) 0 ⟨_,_,_,.inl (ki _ _ (iQ _ (.tail _ (.tail _ (.tail _ (.tail _ (.head _))))))),rfl⟩<|zD 2<|jl (b:=f) (off:=0) (m:=13) (vs:=[c0,c1,c2,.slice ep K.cs.length dZ,.slice dH hv.length du,.slice kR K.rules.length kQ,.slice lg K.before.length ky,.slice lj K.after.length kz,zI K.gone,zI K.new,zI K.af,.slice mi K.facts.length lf,.slice nC rows.length mW]) 12 ⟨_,_,_,.inl (ki _ _ (bZ _ _ hf)),rfl⟩<|zD 4<|aPf [1] [1,0,1,1,0,1,0,3,0,1,0,0] [] (fun(zz:Nat×Bool)=>[(2,zP b2),(4,.bool false),(5,zP b5),(6,zP b6),(16,zI (rows.length:Int)),(17,zI (zz.1:Int))]) (fun zz=>[.b b5 (.cells ⟨[.bool zz.2]⟩ 4 (0,0)),.b b6 (.cells ⟨[zI (p4 0),zI (p4 1),zI (p4 2),zI (p4 3)]⟩ 126 (0,0))]) (fun zz=>zz.1≤rows.length∧zz.2=false∧Kh K rows p4 zz.1=false) (fun zz=>rows.length-zz.1) (⟨0,bo⟩) ⟨Nat.zero_le _,hI.1,rfl⟩ [2,0,1] ?_
  rintro⟨i,bo⟩ hJ K1 bH rest
  dsimp only at hJ
  refine zD 5<|zJ 18 ((i:Int) <(rows.length:Int)) (fun h5=>?_) fun h5=>?_
  ·
   refine zD 5 ?_
   obtain⟨r_,CC⟩:∃r_,rows[i]?=some r_:=⟨_,List.getElem?_eq_getElem (by omega)⟩
   refine zD 6<|jl (b:=b2) (off:=0) (m:=1) (vs:=[zP f]) 0 ⟨_,_,_,.inl (ki _ _ (iQ _ (.tail _ (.tail _ (.tail _ (.tail _ (.head _))))))),rfl⟩<|jl (b:=b2) (off:=0) (m:=1) (vs:=[zP f]) 0 ⟨_,_,_,.inl (ki _ _ (iQ _ (.tail _ (.tail _ (.tail _ (.tail _ (.head _))))))),rfl⟩<|jd 2 [1]<|jp (vs:=[zP f,zI (i:Int),.agg ⟨[zI (p4 0),zI (p4 1),zI (p4 2),zI (p4 3)]⟩]) [] [] (fun aI hs hZ=>arf (hF.up (Sub.trans (bZ.trans ki) hs)) hV CC hpb)<|jp (vs:=[zP f,.agg ⟨[zI ((bx K r_ i p4).past),zI ((bx K r_ i p4).w0),zI ((bx K r_ i p4).w1),zI ((bx K r_ i p4).w2),zI ((bx K r_ i p4).w3),zI ((bx K r_ i p4).gone),zI ((bx K r_ i p4).new),zI ((bx K r_ i p4).af)]⟩]) [] [] (fun aI hs hZ=>agN (x:=(bx K r_ i p4)) (hs _ _ (ki _ _ (bZ _ _ hf))))<|aV 6 fun yA yI x6=>jd 1 [0]<|gq x6<|jd 5 [0]<|js 26 (bM K.gone K.new K.af (bx K r_ i p4)) (fun h7=>?_) (fun h7=>?_)
   ·
    refine zD 2<|jys qy0 (Sub.refl _) (.exit 0) (bM K.gone K.new K.af (bx K r_ i p4)) ⟨rfl,by assumption,List.any_eq_true.2 ⟨p4,zL hp4,apR (i:=i+1) (by rw[ZM CC];simp[*]) (by omega)⟩⟩ [2,0]
   refine zD 3<|ja ((i:Int)+1) (by omega)<|zD 2<|bI bH (⟨i+1,(bM K.gone K.new K.af (bx K r_ i p4))⟩) ⟨by dsimp only;omega,by assumption,by dsimp only;rw[ZM CC,hJ.2.2,Bool.false_or];assumption⟩ (by dsimp only;omega) [0,1,2] (Sub.refl _)
  refine zD 2<|jyn qy0 (Sub.refl _) bo ⟨hJ.2.1,akT hp4 hI.2 (by have:=hJ.2.2;rwa[show i=rows.length by omega] at this)⟩ [2,0]
 ·
  rintro bd4 bo Z4 hI hZ4
  subst hZ4
  refine jd 6 [2]<|jrM qm0.a.m (.bool bo) [0] [] [] [] bZ ⟨by have:=hI.2;rw[List.take_of_length_le (Nat.le_refl _)] at this;rw[hI.1,acg,this],rfl⟩
 rintro bd4 bo Z4 jump hS hZ4
 obtain⟨rfl,hS⟩:=hS
 subst hZ4
 refine jd 6 [2]<|jrM qm0.a.m (.bool bo) [0] [] [] [] bZ ⟨by rw[hS.1,hS.2],rfl⟩
def iAn(k:IntKind)(a b:Int):Int:=k.wrap (BitVec.ofInt k.bits a&&& ~~~ BitVec.ofInt k.bits b).toNat
theorem au1:pf 0=[0]:=by kernel_rfl
theorem au0:pf 1=[0,1]:=by kernel_rfl
theorem auZ:pf 2=[0,1,2,3]:=by kernel_rfl
theorem auY:pf 3=[0,1,2,4,3,5,6,7]:=by kernel_rfl
theorem af1(h:n≤3):(pf n).length≤8∧∀m∈pf n,0≤m∧m <16:=by
 obtain rfl|rfl|rfl|rfl:n=0∨n=1∨n=2∨n=3:=by omega
 ·rw[au1];decide
 ·rw[au0];decide
 ·rw[auZ];decide
 rw[auY];decide
def ML(K:aB)(rows:List bE):Option Int:=(pf K.facts.length).find? fun m=>acg K rows (iAn .u8 (aC K) m)
theorem Zl{p:α→Bool}{l:List α}{x:α}(hx:l[k]?=some x):(l.drop k).find? p=bif p x then some x else (l.drop (k+1)).find? p:=by rw[fx hx,List.find?_cons];cases p x<;>rfl
theorem ajM{p:α→Bool}{l:List α}(hx:¬k <l.length):(l.drop k).find? p=none:=by rw[eA hx];rfl
theorem avb{rows:List bE}(hK:fI ro l K)(hV:eE K)(hR:rows.length≤2)(hB:gL ro l K rows)(hn3:K.facts.length≤3):dO zT 22 [.agg ⟨l⟩] ro [] (fun r Y=>∃v e,r= .tuple ⟨[v,zI e]⟩∧((∃m,ML K rows=some m∧ax v 1 3 cm (lY m 4) Y∧e=0)∨(ML K rows=none∧v= zS∧e=11∧Y=[]))):=by
 obtain⟨v0,v1,v3,v4,v5,v6,v7,vb,fa,fc,hv,rfl,_⟩:=hK
 have RI:=af1 hn3
 have Vs:=RI.1
 refine zE<|zD 2<|jn fun b1=>jd 6 [0]<|jc (vs:=[.agg ⟨[v0,v1,.slice fa 0 fc,v3,v4,v5,v6,v7,zI K.gone,zI K.new,zI K.af,vb]⟩]) [] (hB _ (Sub.refl _)) ?_
 rintro _ Y10 ⟨f10,rfl,ayj⟩
 refine zD 5<|jf [0] Y10 (fun z0 bZ iQ=>?_)
 have BP:=ayj _ bZ iQ
 refine zD 13<|jc (vs:=[zP f10]) [] (aIk BP hV hn3) ?_
 rintro v17 L17 ⟨_,CH,rfl⟩
 refine DL CH<|zD 3<|dP [1,1,1,0,1,0,0] [] (fun(zz:Nat)=>[(4,zP f10),(17,v17),(18,zI ((pf K.facts.length).length:Int)),(19,zI (zz:Int))]) (fun zz=>[.l L17,.b b1 (.cells ⟨[v0,v1,.slice fa 0 fc,v3,v4,v5,v6,v7,zI K.gone,zI K.new,zI K.af,vb]⟩ 40 (0,0))]) (fun zz=>zz≤(pf K.facts.length).length∧ML K rows=((pf K.facts.length).drop zz).find? (fun m=>acg K rows (iAn .u8 (aC K) m))) (fun zz=>(pf K.facts.length).length-zz) 0 ⟨Nat.zero_le _,rfl⟩ [0,1] ?_
 rintro k hI K1 bH rest
 refine zD 5<|zJ 20 ((k:Int) <((pf K.facts.length).length:Int)) (fun h4=>?_) fun h4=>?_
 ·
  refine zD 6 ?_
  obtain⟨yC,qk⟩:=zG ((pf K.facts.length)) k (by first|omega| (simp only[List.length_set,zM];omega))
  refine jxo 1 CH qk fun b21 aSR=>pg 0 [0] L17 (fun s _ hZ=>cK CH aSR hZ qk)<|zD 6<|jp (vs:=[zP f10]) [] [] (fun aI hs hZ=>DK hV (BP.up hs))<|zD 1<|je (.int .u8 (iAn .u8 (aC K) yC)) rfl<|jc (vs:=[zP f10,.int .u8 (iAn .u8 (aC K) yC)]) [] (aUm BP hV (by omega)) ?_
  rintro _ _ ⟨rfl,rfl⟩
  refine jg 0 []<|zD 1<|js 28 (acg K rows (iAn .u8 (aC K) yC)) (fun h5=>?_) (fun h5=>?_)
  ·
   refine zD 4<|jc (vs:=[.int .u8 yC]) [] (ajT) ?_
   rintro v30 L30 ⟨_,CG,rfl⟩
   refine zD 4<|aL q0.a (.tuple ⟨[v30,zI 0]⟩) [] [0] L30 bZ ⟨_,_,rfl,rfl,_,_,rfl,.inl ⟨_,by rw[hI.2,Zl qk];simp only[*,cond_true],CG,rfl⟩⟩
  refine zD 3<|ja ((k:Int)+1) (by omega)<|zD 2<|bI bH (k+1) ⟨by omega,by rw[hI.2,Zl qk];simp only[*,cond_false]⟩ (by omega) [0,1] (Sub.refl _)
 refine zD 8<|aL q0.a (.tuple ⟨[zS,zI 11]⟩) [] [] [] bZ ⟨_,_,rfl,rfl,_,_,rfl,.inr ⟨by rw[hI.2,ajM (by omega)],rfl,rfl,rfl⟩⟩
theorem agM{f:Nat}{rows:List bE}(hF:oX ro f K rows)(hV:eE K)(hR:rows.length≤2):Dh zT 52 [zP f] ro [] (fun r Y=>∃zs v e,r= .tuple ⟨[v,zI e]⟩∧zs.Perm (cA K (aC K) (bM K.gone K.new K.af) rows)∧ax v 8 128 cE zs Y∧((zs=[]∧e=9)∨(zs≠[]∧e=0))):=by
 refine AZ au [] [] ba fun fr=>zD 9<|jp (vs:=[zP f]) [] [] (fun aI hs hZ=>DK hV (hF.up hs))<|NJ (vs:=[zP f,.int .u8 (aC K)]) [] (fun _ _ h=>h) (Yp hV hF hR) ?_
 rintro v8 Y8 ⟨zs,hz,ho8⟩
 refine zD 6<|DL ho8<|zD 2<|zJ 11 ((zs.length:Int)=0) (fun h1=>?_) fun h1=>?_
 ·
  refine zD 7<|O8 qC (.tuple ⟨[zS,zI 9]⟩) [1] [] (Sub.refl _) ⟨zs,_,_,rfl,hz,by rw[show zs=[] from List.eq_nil_of_length_eq_zero (by omega)];exact ax.nil _ _ _,.inl ⟨List.eq_nil_of_length_eq_zero (by omega),rfl⟩⟩
 refine zD 9<|O8 qC (.tuple ⟨[v8,zI 0]⟩) [0,1] Y8 (Sub.refl _) ⟨zs,_,_,rfl,hz,ho8,.inr ⟨fun e=>by subst e;simp at*,rfl⟩⟩
theorem Ra{rows:List bE}(hK:fI ro l K)(hV:eE K)(hR:rows.length≤2)(hB:gL ro l K rows):azs zT 55 [.agg ⟨l⟩] ro [] (fun r aI Y=>∃f zs v e,r= .tuple ⟨[pV f,v,zI e]⟩∧oX aI f K rows∧zs.Perm (cA K (aC K) (bM K.gone K.new K.af) rows)∧ax v 8 128 cE zs Y∧((zs=[]∧e=9)∨(zs≠[]∧e=0))):=by
 obtain⟨v0,v1,v3,v4,v5,v6,v7,vb,fa,fc,hv,rfl,_⟩:=hK
 refine aEY (hm:=au) [] [] ba fun fr=>zD 2<|jn fun b1=>jd 7 [0]<|jc (vs:=[.agg ⟨[v0,v1,.slice fa 0 fc,v3,v4,v5,v6,v7,zI K.gone,zI K.new,zI K.af,vb]⟩]) [] (hB _ (Sub.refl _)) ?_
 rintro _ Y10 ⟨f10,rfl,ayj⟩
 refine zD 5<|jf [0] Y10 (fun z0 bZ iQ=>?_)
 have BP:=ayj _ bZ iQ
 refine zD 12<|NJ (vs:=[zP f10]) [] (fun _ _ h=>h) (agM BP hV hR) ?_
 rintro _ Y18 ⟨zs,v18,e18,rfl,hz,abA,he⟩
 refine zD 16<|aO8 qC.a (.tuple ⟨[zP f10,v18,zI e18]⟩) [0,2] Y18 bZ ⟨f10,zs,v18,e18,rfl,BP,hz,abA,he⟩
theorem an1{x:ah}:dv zT 84 [.agg ⟨[zI x.past,zI x.w0,zI x.w1,zI x.w2,zI x.w3,zI x.gone,zI x.new,zI x.af]⟩] ro (zI x.af):=by
 refine zE<|zD 2<|jn fun b1=>jd 9 [0]<|zX (zI x.af) ⟨rfl,rfl⟩
theorem agD{rows:List bE}(hK:fI ro l K)(hV:eE K)(hR:rows.length≤2)(hB:gL ro l K rows):Dh zT 59 [.agg ⟨l⟩,.func (.func 84) ⟨[]⟩ ⟨[]⟩] ro [] (fun r Y=>∃zs a b e,zs.Perm (cA K (aC K) (bM K.gone K.new K.af) rows)∧Y=[]∧r= .tuple ⟨[.agg ⟨[zI a,zI b]⟩,zI e]⟩∧((zs=[]∧a=0∧b=0∧e=9)∨(zs≠[]∧a=qe (zs.map fun x=>x.af)∧b=vZ (zs.map fun x=>x.af)∧e=0))):=by
 obtain⟨v0,v1,v3,v4,v5,v6,v7,vb,fa,fc,hv,rfl,_⟩:=id hK
 refine AZ au [] [] ba fun fr=>zD 2<|jn fun b2=>jn fun b4=>jd 5 [1]<|agY (vs:=[.agg ⟨[v0,v1,.slice fa 0 fc,v3,v4,v5,v6,v7,zI K.gone,zI K.new,zI K.af,vb]⟩]) [] (fun _ _ h=>h) (Ra hK hV hR hB) ?_
 rintro _ aI Y14 bZ ⟨f14,zs,v14,Fy,rfl,BP,hz,NY,he⟩
 have NW:∀x∈zs,(-4≤x.gone∧x.gone≤4)∧(-4≤x.new∧x.new≤4)∧(0≤x.af∧x.af≤4):=fun x hx=>by obtain⟨i,r,p,_,_,rfl,_⟩:=dV (hz.mem_iff.1 hx);exact lV hV r i p
 have Yy:zs.length≤1250:=by rw[hz.length_eq];exact mQ hV _ _ hR
 refine zD 7<|jf [0] Y14 (fun ro4 mw Pe=>?_)
 have hZ1:=NY.kg Pe
 obtain⟨rR,JL,JJ,pz,rfl,JK,Cd,Cc⟩:=hZ1
 refine zD 7<|js 19 (!decide (Fy=0)) (fun h5=>?_) (fun h5=>?_)
 ·
  replace h5:=of_decide_eq_false (by simpa using h5)
  have pq:zs=[]∧Fy=9:=by rcases he with h| ⟨_,h⟩;exact h;omega
  refine jd 9 [0]<|abh qC.a.a (.tuple ⟨[.agg ⟨[zI 0,zI 0]⟩,zI Fy]⟩) [0] [2] [] (bZ.trans mw) ⟨zs,_,_,_,hz,rfl,rfl,.inl ⟨pq.1,rfl,rfl,pq.2⟩⟩
 replace h5:=of_decide_eq_true (by simpa using h5)
 have pq:zs≠[]∧Fy=0:=by rcases he with ⟨_,h⟩|h;omega;exact h
 have hzp:0 <zs.length:=List.length_pos_iff.2 pq.1
 refine zD 14<|nY<|dP [1,1,1,1,0,1,0,0] [] (fun(zz:Nat×Value×Cells)=>[(1,.func (.func 84) ⟨[]⟩ ⟨[]⟩),(4,zP b4),(5,zI 0),(9,zz.2.1),(22,.slice rR zs.length pz),(23,zI (zs.length:Int)),(24,zI (zz.1:Int))]) (fun zz=>[.l zz.2.2,.b b4 (.cells ⟨[zI 0,zI 0]⟩ 65 (0,0)),.b b2 (.cells ⟨[v0,v1,.slice fa 0 fc,v3,v4,v5,v6,v7,zI K.gone,zI K.new,zI K.af,vb]⟩ 40 (0,0)),.l fr]) (fun zz=>zz.1≤zs.length∧ax zz.2.1 1 3 cm ((zs.take zz.1).map fun x=>x.af) zz.2.2) (fun zz=>zs.length-zz.1) (⟨0,zS,[]⟩) ⟨by dsimp only;omega,ax.nil _ _ _⟩ (zN 0 4) ?_
 rintro⟨k,vS,LS⟩ hI K1 bH rest
 dsimp only at hI
 refine zD 5<|zJ 25 ((k:Int) <(zs.length:Int)) (fun h6=>?_) fun h6=>?_
 ·
  refine zD 6 ?_
  obtain⟨Ap,JW⟩:=zG zs k
  refine ek pz 8 Cd JW<|jl 0 (Cc _ _ JW)<|jn fun S2=>jd 6 [0,0]<|jp (vs:=[.agg ⟨[zI Ap.past,zI Ap.w0,zI Ap.w1,zI Ap.w2,zI Ap.w3,zI Ap.gone,zI Ap.new,zI Ap.af]⟩]) [] [] (fun aI hs hZ=>(an1 (x:=Ap)))<|jn fun b32=>iC (sz:=1) (ps:=((zs.take k).map fun x=>x.af)) (qs:=[Ap.af]) (enc:=cm) (w:= .slice (some ⟨b32,0,none⟩) 1 1) [2] [0] [(b32,.cells ⟨([Ap.af].map cm).flatten⟩ 3 (0,0))] (hI.2) (fun s _ hZ=>bK [Ap.af] (hZ _ (.head _)) (by intro p hp;rfl)) (fun p _=>aj rfl) (by simp only[List.length_map,List.length_take,List.length_cons,List.length_nil];omega) (fun v33 L33 Hz=>?_)
  obtain⟨atd,as1,axy⟩:=Hz.form
  subst axy
  refine zD 3<|ja ((k:Int)+1) (by omega)<|zD 2<|bI bH (⟨k+1,(.slice atd ((((zs.take k).map fun x=>x.af)++[Ap.af])).length as1),L33⟩) ⟨by dsimp only;omega,by rw[gE JW,List.map_append];exact Hz⟩ (by dsimp only;omega) [0,3,4,5] (Sub.refl _)
 refine zD 5<|jp (vs:=[vS]) [0] LS (fun aI hs hZ=>agE (hI.2.kg hZ) ⟨by simp only[List.length_map,List.length_take];omega,by simp only[List.length_map,List.length_take];omega⟩) ?_
 refine jd 4 [1]<|abh qC.a.a (.tuple ⟨[.agg ⟨[zI (qe ((zs.take k).map fun x=>x.af)),zI (vZ ((zs.take k).map fun x=>x.af))]⟩,zI 0]⟩) [1] [3] [] (bZ.trans mw) ⟨zs,_,_,_,hz,rfl,rfl,.inr ⟨pq.1,by rw[show k=zs.length by omega,List.take_length],by rw[show k=zs.length by omega,List.take_length],rfl⟩⟩
theorem avr{rows:List bE}(hK:fI ro l K)(hV:eE K)(hR:rows.length≤2)(hB:gL ro l K rows):Dh zT 47 [.agg ⟨l⟩] ro [] (fun r Y=>∃zs a b e,zs.Perm (cA K (aC K) (bM K.gone K.new K.af) rows)∧Y=[]∧r= .tuple ⟨[.agg ⟨[zI a,zI b]⟩,zI e]⟩∧((zs=[]∧a=0∧b=0∧e=9)∨(zs≠[]∧a=qe (zs.map fun x=>x.af)∧b=vZ (zs.map fun x=>x.af)∧e=0))):=by
 obtain⟨v0,v1,v3,v4,v5,v6,v7,vb,fa,fc,hv,rfl,_⟩:=id hK
 refine AZ au [] [] ba fun fr=>zD 2<|jn fun b1=>jn fun b2=>jd 5 [1]<|NJ (vs:=[.agg ⟨[v0,v1,.slice fa 0 fc,v3,v4,v5,v6,v7,zI K.gone,zI K.new,zI K.af,vb]⟩,.func (.func 84) ⟨[]⟩ ⟨[]⟩]) [] (fun _ _ h=>h) (agD hK hV hR hB) ?_
 rintro _ _ ⟨zs,a5,c5,e5,hz,rfl,rfl,he⟩
 refine jg 0 []<|jd 6 [0]<|abh qC (.tuple ⟨[.agg ⟨[zI a5,zI c5]⟩,zI e5]⟩) [0] [2] [] (Sub.refl _) ⟨zs,_,_,_,hz,rfl,rfl,he⟩
theorem avq{a b:Int}:dv zT 83 [zI a,zI b] ro (.bool (decide (a=b))):=by
 refine zE<|zD 12<|zX (.bool (decide (a=b))) ⟨rfl,rfl⟩
theorem apD{a b:Int}{s:Bool}:dv zT 17 [zI a,zI b,.bool s] ro (.agg ⟨[zI a,zI b,.bool s]⟩):=by
 refine zE<|zD 2<|jn fun b6=>jd 10 [0]<|zR (.agg ⟨[zI a,zI b,.bool s]⟩) [0] [] [] ⟨rfl,rfl⟩
theorem cAt{w:ByteArray}{a b c:Int}:dv zT 81 [.string w,zI a,zI b,zI c] ro (.agg ⟨[.string w,zI a,zI b,zI c,.bool false]⟩):=by
 refine zE<|zD 2<|jn fun b8=>jd 11 [0]<|zR (.agg ⟨[.string w,zI a,zI b,zI c,.bool false]⟩) [0] [] [] ⟨rfl,rfl⟩
theorem aIE{w:ByteArray}{a:Int}:dv zT 80 [.string w,zI a] ro (.agg ⟨[.string w,zI (-1),zI a,(zS)]⟩):=by
 refine zE<|zD 2<|jn fun b4=>jd 9 [0]<|zR (.agg ⟨[.string w,zI (-1),zI a,zS]⟩) [0] [] [] ⟨rfl,rfl⟩
theorem cIs{w:ByteArray}{a:Int}{va:Option Addr}{vn vc:Nat}:dv zT 79 [.string w,zI a,(.slice va vn vc)] ro (.agg ⟨[.string w,zI a,zI (-1),(.slice va vn vc)]⟩):=by
 refine zE<|zD 2<|jn fun b6=>jd 10 [0]<|zR (.agg ⟨[.string w,zI a,zI (-1),(.slice va vn vc)]⟩) [0] [] [] ⟨rfl,rfl⟩
def Wx:List bO:=[⟨(bs [102,111,111,100]),-1⟩,⟨(bs [98,114,101,97,100]),0⟩,⟨(bs [99,108,111,116,104]),-1⟩,⟨(bs [104,97,116,115]),2⟩]
def C7:List cy:=[⟨(bs [98,97,107,101,114]),1,-1,[]⟩,⟨(bs [98,111,110,110,101,116,115]),-1,3,[]⟩,⟨(bs [99,111,110,102,101,99,116,105,111,110,101,114]),0,-1,[0]⟩,⟨(bs [104,97,116,116,101,114]),3,-1,[]⟩,⟨(bs [109,101,114,99,101,114]),2,-1,[3]⟩,⟨(bs [109,105,108,108,105,110,101,114]),-1,1,[]⟩]
def Oz:List aA:=[⟨(bs [115,109,105,116,104]),0,1,0,false⟩,⟨(bs [97,110,110,97]),0,2,3,false⟩,⟨(bs [115,109,121,116,104]),1,1,2,false⟩]
def OA:List aA:=[⟨(bs [115,109,121,116,104]),0,2,0,false⟩,⟨(bs [115,109,105,116,104]),1,1,-1,false⟩,⟨(bs [98,101,110]),0,1,4,false⟩]
abbrev aU(n:Int):aB where
 ways:=[[⟨1,0,0,0,0,0,0⟩,⟨2,0,0,0,0,0,0⟩]]
 cs:=Wx
 hd:=C7
 rules:=[⟨(bs [121]),(bs [105])⟩]
 before:=Oz
 after:=OA
 gone:=1
 new:=1
 af:=n
 facts:=[]
 str:=[[⟨1,0⟩,⟨2,0⟩],[⟨1,0⟩]]
abbrev DZ(n8 Jt b9 xN sq qW BT:Nat)(n:Int):List Value:=[.slice (some ⟨n8,0,none⟩) 2 2,.slice (some ⟨Jt,0,none⟩) 1 1,zS,.slice (some ⟨b9,0,none⟩) 4 4,.slice (some ⟨xN,0,none⟩) 6 6,.slice (some ⟨sq,0,none⟩) 1 1,.slice (some ⟨qW,0,none⟩) 3 3,.slice (some ⟨BT,0,none⟩) 3 3,zI 1,zI 1,zI n,zS]
abbrev Iv(n8 OL IS Jt b29 b9 xN wW IU sq qW BT:Nat):Cells:=[(n8,.cells ⟨[.slice (some ⟨OL,0,none⟩) 2 2,.slice (some ⟨IS,0,none⟩) 1 1]⟩ 80 (0,0)),(OL,.cells ⟨[zI 1,zI 0,zI 2,zI 0]⟩ 79 (0,0)),(IS,.cells ⟨[zI 1,zI 0]⟩ 79 (0,0)),(Jt,.cells ⟨[.slice (some ⟨b29,0,none⟩) 2 2]⟩ 87 (0,0)),(b29,.cells ⟨[zI 1,zI 0,zI 0,zI 0,zI 0,zI 0,zI 0,zI 2,zI 0,zI 0,zI 0,zI 0,zI 0,zI 0]⟩ 83 (0,0)),(b9,.cells ⟨[.string (bs [102,111,111,100]),zI (-1),.string (bs [98,114,101,97,100]),zI 0,.string (bs [99,108,111,116,104]),zI (-1),.string (bs [104,97,116,115]),zI 2]⟩ 142 (0,0)),(xN,.cells ⟨[.string (bs [98,97,107,101,114]),zI 1,zI (-1),zS,.string (bs [98,111,110,110,101,116,115]),zI (-1),zI 3,zS,.string (bs [99,111,110,102,101,99,116,105,111,110,101,114]),zI 0,zI (-1),.slice (some ⟨wW,0,none⟩) 1 1,.string (bs [104,97,116,116,101,114]),zI 3,zI (-1),zS,.string (bs [109,101,114,99,101,114]),zI 2,zI (-1),.slice (some ⟨IU,0,none⟩) 1 1,.string (bs [109,105,108,108,105,110,101,114]),zI (-1),zI 1,zS]⟩ 145 (0,0)),(wW,.cells ⟨[zI 0]⟩ 3 (0,0)),(IU,.cells ⟨[zI 3]⟩ 3 (0,0)),(sq,.cells ⟨[.string (bs [121]),.string (bs [105])]⟩ 45 (0,0)),(qW,.cells ⟨[.string (bs [115,109,105,116,104]),zI 0,zI 1,zI 0,.bool false,.string (bs [97,110,110,97]),zI 0,zI 2,zI 3,.bool false,.string (bs [115,109,121,116,104]),zI 1,zI 1,zI 2,.bool false]⟩ 55 (0,0)),(BT,.cells ⟨[.string (bs [115,109,121,116,104]),zI 0,zI 2,zI 0,.bool false,.string (bs [115,109,105,116,104]),zI 1,zI 1,zI (-1),.bool false,.string (bs [98,101,110]),zI 0,zI 1,zI 4,.bool false]⟩ 55 (0,0))]
abbrev aku(wW IU:Nat):List bw:=[⟨(bs [98,97,107,101,114]),1,-1,zS⟩,⟨(bs [98,111,110,110,101,116,115]),-1,3,zS⟩,⟨(bs [99,111,110,102,101,99,116,105,111,110,101,114]),0,-1,.slice (some ⟨wW,0,none⟩) 1 1⟩,⟨(bs [104,97,116,116,101,114]),3,-1,zS⟩,⟨(bs [109,101,114,99,101,114]),2,-1,.slice (some ⟨IU,0,none⟩) 1 1⟩,⟨(bs [109,105,108,108,105,110,101,114]),-1,1,zS⟩]
theorem MA{n8 OL IS Jt b29 b9 xN wW IU sq qW BT:Nat}{n:Int}(hk:Knows ro (Iv n8 OL IS Jt b29 b9 xN wW IU sq qW BT)):fI ro (DZ n8 Jt b9 xN sq qW BT n) (aU n):=
 ⟨_,_,_,_,_,_,_,_,none,0,aku wW IU,rfl,
  ⟨[.slice (some ⟨OL,0,none⟩) 2 2,.slice (some ⟨IS,0,none⟩) 1 1],bU (enc:=fH) (T:=80) [.slice (some ⟨OL,0,none⟩) 2 2,.slice (some ⟨IS,0,none⟩) 1 1] (hk _ (.head _)) (fun _ _=>rfl),
   .cons (bU (enc:=cL) (T:=79) [⟨1,0⟩,⟨2,0⟩] (hk _ (.tail _ (.head _))) (fun _ _=>rfl)) (.cons (bU (enc:=cL) (T:=79) [⟨1,0⟩] (hk _ (.tail _ (.tail _ (.head _)))) (fun _ _=>rfl)) .nil)⟩,
  ⟨[.slice (some ⟨b29,0,none⟩) 2 2],bU (enc:=fH) (T:=87) [.slice (some ⟨b29,0,none⟩) 2 2] (hk _ (.tail _ (.tail _ (.tail _ (.head _))))) (fun _ _=>rfl),
   .cons (bU (enc:=kM) (T:=83) [⟨1,0,0,0,0,0,0⟩,⟨2,0,0,0,0,0,0⟩] (hk _ (.tail _ (.tail _ (.tail _ (.tail _ (.head _)))))) (fun _ _=>rfl)) .nil⟩,
  ⟨bU (enc:=oW) (T:=142) Wx (hk _ (.tail _ (.tail _ (.tail _ (.tail _ (.tail _ (.head _))))))) (fun _ _=>rfl),bU (enc:=mb) (T:=145) (aku wW IU) (hk _ (.tail _ (.tail _ (.tail _ (.tail _ (.tail _ (.tail _ (.head _)))))))) (fun _ _=>rfl),
   .cons ⟨rfl,rfl,rfl,bD.nil _ _ _ _ _⟩ (.cons ⟨rfl,rfl,rfl,bD.nil _ _ _ _ _⟩ (.cons ⟨rfl,rfl,rfl,bU (enc:=cm) (T:=3) [0] (hk _ (.tail _ (.tail _ (.tail _ (.tail _ (.tail _ (.tail _ (.tail _ (.head _))))))))) (fun _ _=>rfl)⟩ (.cons ⟨rfl,rfl,rfl,bD.nil _ _ _ _ _⟩ (.cons ⟨rfl,rfl,rfl,bU (enc:=cm) (T:=3) [3] (hk _ (.tail _ (.tail _ (.tail _ (.tail _ (.tail _ (.tail _ (.tail _ (.tail _ (.head _)))))))))) (fun _ _=>rfl)⟩ (.cons ⟨rfl,rfl,rfl,bD.nil _ _ _ _ _⟩ .nil)))))⟩,
  .cons ⟨rfl,rfl,rfl⟩ (.cons ⟨rfl,rfl,rfl⟩ (.cons ⟨rfl,rfl,rfl⟩ (.cons ⟨rfl,rfl,rfl⟩ (.cons ⟨rfl,rfl,rfl⟩ (.cons ⟨rfl,rfl,rfl⟩ .nil))))),
  bU (enc:=iF) (T:=45) [⟨(bs [121]),(bs [105])⟩] (hk _ (.tail _ (.tail _ (.tail _ (.tail _ (.tail _ (.tail _ (.tail _ (.tail _ (.tail _ (.head _))))))))))) (fun _ _=>rfl),bU (enc:=eF) (T:=55) Oz (hk _ (.tail _ (.tail _ (.tail _ (.tail _ (.tail _ (.tail _ (.tail _ (.tail _ (.tail _ (.tail _ (.head _)))))))))))) (fun _ _=>rfl),bU (enc:=eF) (T:=55) OA (hk _ (.tail _ (.tail _ (.tail _ (.tail _ (.tail _ (.tail _ (.tail _ (.tail _ (.tail _ (.tail _ (.tail _ (.head _))))))))))))) (fun _ _=>rfl),bD.nil _ _ _ _ _⟩
theorem MB(n8 Jt b9 xN sq qW BT:Nat)(n:Int):W7 (aU n) (DZ n8 Jt b9 xN sq qW BT n):=
 ⟨_,_,_,_,_,_,_,_,none,0,rfl,AB rfl rfl rfl rfl rfl rfl rfl rfl⟩
theorem ME{n:Int}:dO zT 45 [zI n] ro [] (fun r Y=>∃l,r= .agg ⟨l⟩∧(∀aG,Knows aG Y→fI aG l (aU n))∧W7 (aU n) l):=by
 refine zE<|zD 2<|jn fun b2=>zD 7<|jn fun b9=>jp (vs:=[.string (bs [98,97,107,101,114]),zI 1,zS]) [] [] (fun aI hs hZ=>cIs)<|jp (vs:=[.string (bs [98,111,110,110,101,116,115]),zI 3]) [] [] (fun aI hs hZ=>aIE)<|jn fun wW=>jp (vs:=[.string (bs [99,111,110,102,101,99,116,105,111,110,101,114]),zI 0,.slice (some ⟨wW,0,none⟩) 1 1]) [] [] (fun aI hs hZ=>cIs)<|jp (vs:=[.string (bs [104,97,116,116,101,114]),zI 3,zS]) [] [] (fun aI hs hZ=>cIs)<|jn fun IU=>jp (vs:=[.string (bs [109,101,114,99,101,114]),zI 2,.slice (some ⟨IU,0,none⟩) 1 1]) [] [] (fun aI hs hZ=>cIs)<|jp (vs:=[.string (bs [109,105,108,108,105,110,101,114]),zI 1]) [] [] (fun aI hs hZ=>aIE)<|jn fun xN=>zD 1<|jn fun b3=>jd 6 [0]<|jn fun OL=>zD 1<|jn fun IS=>jn fun n8=>zD 3<|jn fun b29=>zD 1<|jn fun Jt=>zD 1<|jn fun b4=>jd 8 [0,0,6]<|jp (vs:=[.string (bs [115,109,105,116,104]),zI 0,zI 1,zI 0]) [] [] (fun aI hs hZ=>cAt)<|jp (vs:=[.string (bs [97,110,110,97]),zI 0,zI 2,zI 3]) [] [] (fun aI hs hZ=>cAt)<|jp (vs:=[.string (bs [115,109,121,116,104]),zI 1,zI 1,zI 2]) [] [] (fun aI hs hZ=>cAt)<|jp (vs:=[.string (bs [115,109,121,116,104]),zI 0,zI 2,zI 0]) [] [] (fun aI hs hZ=>cAt)<|jp (vs:=[.string (bs [115,109,105,116,104]),zI 1,zI 1,zI (-1)]) [] [] (fun aI hs hZ=>cAt)<|jp (vs:=[.string (bs [98,101,110]),zI 0,zI 1,zI 4]) [] [] (fun aI hs hZ=>cAt)<|Jb [3,7,11] ⟨fun z1 t2 oU=>?_,fun z4 t5 VN=>?_,fun z7 t8 R9=>?_,trivial⟩
 ·
  refine jn fun sq=>eH oU (zN 1 12)<|Jb [7,11] ⟨fun z10 t11 CV=>?_,fun z13 t14 ai0=>?_,trivial⟩
  ·
   refine jn fun qW=>eH CV (zN 1 13)<|aV 11 fun aAW aBR J6=>jn fun BT=>eH J6 (zN 1 14)<|zD 1<|aV 14 fun adb adX HW=>jd 1 [14]<|gq HW<|zD 2<|zR (.agg ⟨DZ n8 Jt b9 xN sq qW BT n⟩) [14] [6,8,7,4,5,13,10,12,11,2,1,0] (Iv n8 OL IS Jt b29 b9 xN wW IU sq qW BT) ⟨_,rfl,fun _ hk=>MA hk,MB _ _ _ _ _ _ _ _⟩
  refine jn fun BT=>eH ai0 (zN 1 13)<|aV 7 fun aqf aqz VX=>jn fun qW=>eH VX (zN 1 14)<|zD 1<|aV 14 fun aqe aqy VW=>jd 1 [14]<|gq VW<|zD 2<|zR (.agg ⟨DZ n8 Jt b9 xN sq qW BT n⟩) [14] [6,8,7,4,5,13,10,12,11,2,0,1] (Iv n8 OL IS Jt b29 b9 xN wW IU sq qW BT) ⟨_,rfl,fun _ hk=>MA hk,MB _ _ _ _ _ _ _ _⟩
 ·
  refine jn fun qW=>eH VN (zN 1 12)<|Jb [3,11] ⟨fun z20 t21 aiZ=>?_,fun z23 t24 VT=>?_,trivial⟩
  ·
   refine jn fun sq=>eH aiZ (zN 1 13)<|aV 11 fun ada adW EN=>jn fun BT=>eH EN (zN 1 14)<|zD 1<|aV 14 fun Ps PS HV=>jd 1 [14]<|gq HV<|zD 2<|zR (.agg ⟨DZ n8 Jt b9 xN sq qW BT n⟩) [14] [6,8,7,4,5,13,10,12,11,1,2,0] (Iv n8 OL IS Jt b29 b9 xN wW IU sq qW BT) ⟨_,rfl,fun _ hk=>MA hk,MB _ _ _ _ _ _ _ _⟩
  refine jn fun BT=>eH VT (zN 1 13)<|aV 3 fun Pr PQ HU=>jn fun sq=>eH HU (zN 1 14)<|zD 1<|aV 14 fun Pq PO HT=>jd 1 [14]<|gq HT<|zD 2<|zR (.agg ⟨DZ n8 Jt b9 xN sq qW BT n⟩) [14] [6,8,7,4,5,13,10,12,11,0,2,1] (Iv n8 OL IS Jt b29 b9 xN wW IU sq qW BT) ⟨_,rfl,fun _ hk=>MA hk,MB _ _ _ _ _ _ _ _⟩
 refine jn fun BT=>eH R9 (zN 1 12)<|Jb [3,7] ⟨fun z30 t31 VQ=>?_,fun z33 t34 aiX=>?_,trivial⟩
 ·
  refine jn fun sq=>eH VQ (zN 1 13)<|aV 7 fun ac7 adT N6=>jn fun qW=>eH N6 (zN 1 14)<|zD 1<|aV 14 fun ac6 adS VP=>jd 1 [14]<|gq VP<|zD 2<|zR (.agg ⟨DZ n8 Jt b9 xN sq qW BT n⟩) [14] [6,8,7,4,5,13,10,12,11,1,0,2] (Iv n8 OL IS Jt b29 b9 xN wW IU sq qW BT) ⟨_,rfl,fun _ hk=>MA hk,MB _ _ _ _ _ _ _ _⟩
 refine jn fun qW=>eH aiX (zN 1 13)<|aV 3 fun aqc aqw aiW=>jn fun sq=>eH aiW (zN 1 14)<|zD 1<|aV 14 fun aqb aqv aiU=>jd 1 [14]<|gq aiU<|zD 2<|zR (.agg ⟨DZ n8 Jt b9 xN sq qW BT n⟩) [14] [6,8,7,4,5,13,10,12,11,0,1,2] (Iv n8 OL IS Jt b29 b9 xN wW IU sq qW BT) ⟨_,rfl,fun _ hk=>MA hk,MB _ _ _ _ _ _ _ _⟩
instance (nc nh i:Nat)(x:cy):Decidable (gF nc nh i x):=by unfold gF;infer_instance
instance (w:ByteArray):Decidable (Script w):=by unfold Script;infer_instance
theorem WM{p:Nat→α→Prop}{l:List α}(h:∀i (hi:i <l.length),p i l[i]):∀(i:Nat) (x:α),l[i]?=some x→p i x:=fun i x hx=>by
 obtain⟨h1,rfl⟩:=List.getElem?_eq_some_iff.1 hx
 exact h i h1
theorem Iu:∀(i:Nat) (x:cy),C7[i]?=some x→gF 4 6 i x:=WM (by decide)
theorem Ww:∀(i:Nat) (x:cy),C7[i]?=some x→Av x.word=true:=WM (of_decide_eq_true (by kernel_rfl))
theorem akt:∀(i:Nat) (x:bO),Wx[i]?=some x→Av x.name=true∧ -1≤x.under∧x.under <i:=WM (of_decide_eq_true (by kernel_rfl))
def awF(hd:List cy)(i:Int):Bool:=decide (i= -1)||(decide (0≤i)&&match hd[i.toNat]? with
 |some x=>decide (0≤x.cls)
 |none=>false)
theorem fp{i:Int}(h:awF hd i=true):nT hd i:=by
 simp only[awF,Bool.or_eq_true,Bool.and_eq_true,decide_eq_true_eq] at h
 rcases h with h| ⟨h1,h2⟩
 ·exact .inl h
 split at h2
 ·rename_i x hx;exact .inr ⟨h1,x,hx,of_decide_eq_true h2⟩
 cases h2
def Qr(p:aA):Bool:=decide (((1≤p.name.size∧p.name.size≤6)∧Script p.name)∧(0≤p.st∧p.st≤1)∧p.bold=false)&&awF C7 p.head
theorem Nr{p:aA}(h:Qr p=true):FB C7 p:=by
 simp only[Qr,Bool.and_eq_true,decide_eq_true_eq] at h
 exact⟨h.1.1,fp h.2,h.1.2⟩
theorem aff{p:aA}(h:Qr p=true):rE p.name∧nT C7 p.head:=by
 have:=Nr h
 exact⟨⟨this.1.1,this.1.2⟩,this.2.1⟩
theorem Zx:∀p∈Oz,Qr p=true:=by decide
theorem Zy:∀p∈OA,Qr p=true:=by decide
abbrev D5(n:Int)(fs:List cu):aB:={aU n with facts:=fs}
theorem ash{n:Int}(h:0≤n∧n≤4)(hf:fs.length≤3)(h1:∀x∈fs,(0≤x.a∧x.a <3)∧(0≤x.b∧x.b <3))(h2:fs.Pairwise fun x y=>¬(x.a=y.a∧x.b=y.b)):jv (D5 n fs) where
 oO:=⟨rfl,by simp,by simp[BC],by simp[ane]⟩
 ways:=⟨(by decide:(1:Nat)≤1),by simp[jz]⟩
 da:=⟨(by decide:(0:Nat) <4∧4≤6),(by decide:(6:Nat)≤6),Iu⟩
 rules:=(by decide:(1:Nat)≤4)
 before:=⟨(by decide:(3:Nat)≤4),fun p hp=>⟨Nr (Zx p hp),by
  simp only[Oz,List.mem_cons,List.not_mem_nil,or_false] at hp
  rcases hp with rfl|rfl|rfl
  ·exact⟨_,rfl,by simp⟩
  ·exact⟨_,rfl,by simp⟩
  exact⟨_,rfl,by simp⟩⟩⟩
 after:=⟨(by decide:(3:Nat)≤4),fun p hp=>⟨Nr (Zy p hp),by
  simp only[OA,List.mem_cons,List.not_mem_nil,or_false] at hp
  rcases hp with rfl|rfl|rfl<;>decide⟩⟩
 ud:=⟨(by decide:(0:Int)≤1∧(1:Int)≤4),(by decide:(0:Int)≤1∧(1:Int)≤4),h⟩
 facts:=⟨by show fs.length≤4;omega,h1⟩
 apart:=h2
theorem asg{n:Int}(hf:fs.length≤3)(h1:∀x∈fs,(0≤x.a∧x.a <3)∧(0≤x.b∧x.b <3)):eE (D5 n fs) where
 rules:=⟨(by decide:(1:Nat)≤4),by
  intro r hr
  rw[List.mem_singleton] at hr;subst hr
  have e:Xx ⟨bs [121],bs [105]⟩=true:=by kernel_rfl
  simp only[Xx,Bool.and_eq_true,Nat.ble_eq,Bool.not_eq_true'] at e
  exact⟨e.1,e.2.1,G0 e.2.2.1,G0 e.2.2.2.1,e.2.2.2.2⟩⟩
 before:=⟨(by decide:(3:Nat)≤4),fun p hp=>aff (Zx p hp)⟩
 after:=⟨(by decide:(3:Nat)≤4),fun p hp=>aff (Zy p hp)⟩
 da:=⟨(by decide:(0:Nat) <4∧4≤6),(by decide:(6:Nat)≤6),akt,by simp only[Az];decide,fun i x hx=>⟨Ww i x hx,Iu i x hx⟩,by simp only[Az,P2];decide⟩
 facts:=⟨by show fs.length≤4;omega,h1⟩
theorem aID{v0 v1 v3 v4 v5 v6 v7 vb:Value}{fa fb:Option Addr}{fn fd:Nat}{g0 g1 g2:Int}(hs:∀v∈[v0,v1,(.slice fa 0 fc),v3,v4,v5,v6,v7,zI g0,zI g1,zI g2,(.slice fb fn fd)],single v=true):dv zT 49 [.agg ⟨[v0,v1,(.slice fa 0 fc),v3,v4,v5,v6,v7,zI g0,zI g1,zI g2,vb]⟩,(.slice fb fn fd)] ro (.agg ⟨[v0,v1,(.slice fa 0 fc),v3,v4,v5,v6,v7,zI g0,zI g1,zI g2,(.slice fb fn fd)]⟩):=by
 refine zE<|zD 2<|jn fun b2=>jn fun b4=>jd 10 [1,1]<|jsx 0 b4 0 zO [v0,v1,(.slice fa 0 fc),v3,v4,v5,v6,v7,zI g0,zI g1,zI g2,(.slice fb fn fd)] 40 hs rfl<|zD 2<|zR (.agg ⟨[v0,v1,(.slice fa 0 fc),v3,v4,v5,v6,v7,zI g0,zI g1,zI g2,(.slice fb fn fd)]⟩) [0] [] [] ⟨rfl,rfl⟩
end Go.L
