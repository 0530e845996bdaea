/- Part 10 of the proof. -/
import Derived.Test.YtknkndglfcfhkaaGreatDoorQ9
set_option maxRecDepth 100000
set_option linter.all false
namespace Go.L
open Go Go.Conc Go.Proofs
variable {ro aD:Nat→Option Obj} {ways:List (List aO)} {ys xs:List Int} {K:aB} {l:List Value} {k n b fc b1 i ck bl b2 b3 Ja ck0 r1 en ec:Nat} {Stop:Cells→Prop} {α:Type} {x f y j:Int} {vS vT:Value} {seen:List Nat} {hd:List cy} {fs:List bM} {Z B LE:Cells}
def ayF(S:List (List ah))(c:aO):List (an×an):=
 if c.k=1 then adZ c.st (S[c.st.toNat]?.getD []) else if c.k=2 then JY c.st (S[c.st.toNat]?.getD []) else KX c.st c.ot (S[c.st.toNat]?.getD []) (rO (S[c.ot.toNat]?.getD []))
def y4(S:List (List ah))(c:aO)(x:an):an:=gU (ayF S c) x
theorem p5{l:List α}(h:l.length=2):∃a b,l=[a,b]:=by
 match l,h with
 | [a,b],_=>exact⟨a,b,rfl⟩
theorem Sq:dr zT 209 [] ro (.agg ⟨[.nilFunc,.func (.func 230) ⟨[]⟩ ⟨[]⟩,.func (.func 231) ⟨[]⟩ ⟨[]⟩,.func (.func 232) ⟨[]⟩ ⟨[]⟩,.func (.func 233) ⟨[]⟩ ⟨[]⟩,.func (.func 234) ⟨[]⟩ ⟨[]⟩,.func (.func 235) ⟨[]⟩ ⟨[]⟩,.func (.func 236) ⟨[]⟩ ⟨[]⟩]⟩):=by
 refine zE<|zD 2<|jn fun b0=>jd 7 [0]<|zR (.agg ⟨[.nilFunc,.func (.func 230) ⟨[]⟩ ⟨[]⟩,.func (.func 231) ⟨[]⟩ ⟨[]⟩,.func (.func 232) ⟨[]⟩ ⟨[]⟩,.func (.func 233) ⟨[]⟩ ⟨[]⟩,.func (.func 234) ⟨[]⟩ ⟨[]⟩,.func (.func 235) ⟨[]⟩ ⟨[]⟩,.func (.func 236) ⟨[]⟩ ⟨[]⟩]⟩) [0] [] [] ⟨rfl,rfl⟩
theorem aHA{v:Value}{S:List (List ah)}(hS:cU ro v S)(hO:eQ S):dE zT 176 [.agg ⟨[v]⟩,.agg ⟨[zI 1,zI 0,zI 0,zI 0,zI 0,zI 0,zI 0]⟩] ro [] (fun r Y=>∃rm F LM Z,r= .tuple ⟨[.map (some rm),zI 0]⟩∧Y=LM++Z∧jP rm oU F LM∧F.map (·.1)=bI S∧MV Z F (y4 S ⟨1,0,0,0,0,0,0⟩)):=by
 obtain⟨p,q,rfl⟩:=p5 hO.two
 have yp:=hS
 obtain⟨ws,ht,dg⟩:=hS
 obtain⟨w1,w2,rfl⟩:=p5 (dg.len.trans hO.two)
 obtain⟨eP,AG,AE,dQ,rfl,AF,sr,sq⟩:=ht
 refine zE<|zD 2<|jn fun b2=>jn fun b3=>jd 8 [0]<|jp (vs:=[zI 1,zI 1,zI 7]) [] [] (fun aG hs hZ=>Bb)<|jd 18 [1,0]<|jp (vs:=[zI 0,zI 0,zI 1]) [] [] (fun aG hs hZ=>Bb)<|jd 70 [0,0,0,0,0,0]<|jne GL (wQ 0 0 0 0)<|zD 3<|js 73 (!(0==0&&(0==0&&true))) (fun h1=>?_) (fun h1=>?_)
 ·
  have fp:=h1
  try simp only[zB] at fp
  exact absurd fp (by decide)
 have fp:=h1
 try simp only[zB] at fp
 refine jd 6 [0]<|jne GL (wQ 0 0 0 0)<|zD 3<|js 82 (!(0==0&&(0==0&&true))) (fun h2=>?_) (fun h2=>?_)
 ·
  exact absurd h2 (by decide)
 refine jd 5 [1]<|jc (vs:=[.agg ⟨[.slice eP 2 dQ]⟩]) [] (Lu (yp) hO) ?_
 rintro _ _ ⟨rm,F,LM,Z,rfl,rfl,hmM,hkM,hMM⟩
 refine jg 0 [.l LM,.l Z]<|jd 10 [2,3,2]<|jp [] [] (fun aG hs hZ=>Sq)<|zD 1<|aS 7 fun BV B3 An=>jc (vs:=[.agg ⟨[.slice eP 2 dQ]⟩,.agg ⟨[zI 1,zI 0,zI 0,zI 0,zI 0,zI 0,zI 0]⟩,(.map (some rm))]) [0,1] (Zm (s:=0) yp hO rfl hmM hkM hMM) ?_
 rintro _ _ ⟨F2,ON,Z2,rfl,rfl,Fe,iK,hM2⟩
 refine jg 0 [.l ON,.l Z2]<|gx An [[2]]<|zD 16<|zR (.tuple ⟨[(.map (some rm)),zI 0]⟩) [] [0,1] (ON++Z2) ⟨rm,F2,ON,Z2,rfl,rfl,Fe,iK,hM2⟩
theorem aHz{v:Value}{S:List (List ah)}(hS:cU ro v S)(hO:eQ S):dE zT 176 [.agg ⟨[v]⟩,.agg ⟨[zI 2,zI 0,zI 0,zI 0,zI 0,zI 0,zI 0]⟩] ro [] (fun r Y=>∃rm F LM Z,r= .tuple ⟨[.map (some rm),zI 0]⟩∧Y=LM++Z∧jP rm oU F LM∧F.map (·.1)=bI S∧MV Z F (y4 S ⟨2,0,0,0,0,0,0⟩)):=by
 obtain⟨p,q,rfl⟩:=p5 hO.two
 have yp:=hS
 obtain⟨ws,ht,dg⟩:=hS
 obtain⟨w1,w2,rfl⟩:=p5 (dg.len.trans hO.two)
 obtain⟨eP,AG,AE,dQ,rfl,AF,sr,sq⟩:=ht
 refine zE<|zD 2<|jn fun b2=>jn fun b3=>jd 8 [0]<|jp (vs:=[zI 2,zI 1,zI 7]) [] [] (fun aG hs hZ=>Bb)<|jd 18 [1,0]<|jp (vs:=[zI 0,zI 0,zI 1]) [] [] (fun aG hs hZ=>Bb)<|jd 70 [0,0,0,0,0,0]<|jne GL (wQ 0 0 0 0)<|zD 3<|js 73 (!(0==0&&(0==0&&true))) (fun h1=>?_) (fun h1=>?_)
 ·
  have fp:=h1
  try simp only[zB] at fp
  exact absurd fp (by decide)
 have fp:=h1
 try simp only[zB] at fp
 refine jd 6 [0]<|jne GL (wQ 0 0 0 0)<|zD 3<|js 82 (!(0==0&&(0==0&&true))) (fun h2=>?_) (fun h2=>?_)
 ·
  exact absurd h2 (by decide)
 refine jd 5 [1]<|jc (vs:=[.agg ⟨[.slice eP 2 dQ]⟩]) [] (Lu (yp) hO) ?_
 rintro _ _ ⟨rm,F,LM,Z,rfl,rfl,hmM,hkM,hMM⟩
 refine jg 0 [.l LM,.l Z]<|jd 10 [2,3,2]<|jp [] [] (fun aG hs hZ=>Sq)<|zD 1<|aS 7 fun BV B3 An=>jc (vs:=[.agg ⟨[.slice eP 2 dQ]⟩,.agg ⟨[zI 2,zI 0,zI 0,zI 0,zI 0,zI 0,zI 0]⟩,(.map (some rm))]) [0,1] (So (s:=0) yp hO rfl hmM hkM hMM) ?_
 rintro _ _ ⟨F2,ON,Z2,rfl,rfl,Fe,iK,hM2⟩
 refine jg 0 [.l ON,.l Z2]<|gx An [[2]]<|zD 16<|zR (.tuple ⟨[(.map (some rm)),zI 0]⟩) [] [0,1] (ON++Z2) ⟨rm,F2,ON,Z2,rfl,rfl,Fe,iK,hM2⟩
theorem aHy{v:Value}{S:List (List ah)}(hS:cU ro v S)(hO:eQ S):dE zT 176 [.agg ⟨[v]⟩,.agg ⟨[zI 1,zI 1,zI 0,zI 0,zI 0,zI 0,zI 0]⟩] ro [] (fun r Y=>∃rm F LM Z,r= .tuple ⟨[.map (some rm),zI 0]⟩∧Y=LM++Z∧jP rm oU F LM∧F.map (·.1)=bI S∧MV Z F (y4 S ⟨1,1,0,0,0,0,0⟩)):=by
 obtain⟨p,q,rfl⟩:=p5 hO.two
 have yp:=hS
 obtain⟨ws,ht,dg⟩:=hS
 obtain⟨w1,w2,rfl⟩:=p5 (dg.len.trans hO.two)
 obtain⟨eP,AG,AE,dQ,rfl,AF,sr,sq⟩:=ht
 refine zE<|zD 2<|jn fun b2=>jn fun b3=>jd 8 [0]<|jp (vs:=[zI 1,zI 1,zI 7]) [] [] (fun aG hs hZ=>Bb)<|jd 18 [1,0]<|jp (vs:=[zI 1,zI 0,zI 1]) [] [] (fun aG hs hZ=>Bb)<|jd 70 [0,0,0,0,0,0]<|jne GL (wQ 0 0 0 0)<|zD 3<|js 73 (!(0==0&&(0==0&&true))) (fun h1=>?_) (fun h1=>?_)
 ·
  have fp:=h1
  try simp only[zB] at fp
  exact absurd fp (by decide)
 have fp:=h1
 try simp only[zB] at fp
 refine jd 6 [0]<|jne GL (wQ 0 0 0 0)<|zD 3<|js 82 (!(0==0&&(0==0&&true))) (fun h2=>?_) (fun h2=>?_)
 ·
  exact absurd h2 (by decide)
 refine jd 5 [1]<|jc (vs:=[.agg ⟨[.slice eP 2 dQ]⟩]) [] (Lu (yp) hO) ?_
 rintro _ _ ⟨rm,F,LM,Z,rfl,rfl,hmM,hkM,hMM⟩
 refine jg 0 [.l LM,.l Z]<|jd 10 [2,3,2]<|jp [] [] (fun aG hs hZ=>Sq)<|zD 1<|aS 7 fun BV B3 An=>jc (vs:=[.agg ⟨[.slice eP 2 dQ]⟩,.agg ⟨[zI 1,zI 1,zI 0,zI 0,zI 0,zI 0,zI 0]⟩,(.map (some rm))]) [0,1] (Zm (s:=1) yp hO rfl hmM hkM hMM) ?_
 rintro _ _ ⟨F2,ON,Z2,rfl,rfl,Fe,iK,hM2⟩
 refine jg 0 [.l ON,.l Z2]<|gx An [[2]]<|zD 16<|zR (.tuple ⟨[(.map (some rm)),zI 0]⟩) [] [0,1] (ON++Z2) ⟨rm,F2,ON,Z2,rfl,rfl,Fe,iK,hM2⟩
theorem aHx{v:Value}{S:List (List ah)}(hS:cU ro v S)(hO:eQ S):dE zT 176 [.agg ⟨[v]⟩,.agg ⟨[zI 2,zI 1,zI 0,zI 0,zI 0,zI 0,zI 0]⟩] ro [] (fun r Y=>∃rm F LM Z,r= .tuple ⟨[.map (some rm),zI 0]⟩∧Y=LM++Z∧jP rm oU F LM∧F.map (·.1)=bI S∧MV Z F (y4 S ⟨2,1,0,0,0,0,0⟩)):=by
 obtain⟨p,q,rfl⟩:=p5 hO.two
 have yp:=hS
 obtain⟨ws,ht,dg⟩:=hS
 obtain⟨w1,w2,rfl⟩:=p5 (dg.len.trans hO.two)
 obtain⟨eP,AG,AE,dQ,rfl,AF,sr,sq⟩:=ht
 refine zE<|zD 2<|jn fun b2=>jn fun b3=>jd 8 [0]<|jp (vs:=[zI 2,zI 1,zI 7]) [] [] (fun aG hs hZ=>Bb)<|jd 18 [1,0]<|jp (vs:=[zI 1,zI 0,zI 1]) [] [] (fun aG hs hZ=>Bb)<|jd 70 [0,0,0,0,0,0]<|jne GL (wQ 0 0 0 0)<|zD 3<|js 73 (!(0==0&&(0==0&&true))) (fun h1=>?_) (fun h1=>?_)
 ·
  have fp:=h1
  try simp only[zB] at fp
  exact absurd fp (by decide)
 have fp:=h1
 try simp only[zB] at fp
 refine jd 6 [0]<|jne GL (wQ 0 0 0 0)<|zD 3<|js 82 (!(0==0&&(0==0&&true))) (fun h2=>?_) (fun h2=>?_)
 ·
  exact absurd h2 (by decide)
 refine jd 5 [1]<|jc (vs:=[.agg ⟨[.slice eP 2 dQ]⟩]) [] (Lu (yp) hO) ?_
 rintro _ _ ⟨rm,F,LM,Z,rfl,rfl,hmM,hkM,hMM⟩
 refine jg 0 [.l LM,.l Z]<|jd 10 [2,3,2]<|jp [] [] (fun aG hs hZ=>Sq)<|zD 1<|aS 7 fun BV B3 An=>jc (vs:=[.agg ⟨[.slice eP 2 dQ]⟩,.agg ⟨[zI 2,zI 1,zI 0,zI 0,zI 0,zI 0,zI 0]⟩,(.map (some rm))]) [0,1] (So (s:=1) yp hO rfl hmM hkM hMM) ?_
 rintro _ _ ⟨F2,ON,Z2,rfl,rfl,Fe,iK,hM2⟩
 refine jg 0 [.l ON,.l Z2]<|gx An [[2]]<|zD 16<|zR (.tuple ⟨[(.map (some rm)),zI 0]⟩) [] [0,1] (ON++Z2) ⟨rm,F2,ON,Z2,rfl,rfl,Fe,iK,hM2⟩
theorem aHw{v:Value}{S:List (List ah)}(hS:cU ro v S)(hO:eQ S):dE zT 176 [.agg ⟨[v]⟩,.agg ⟨[zI 4,zI 1,zI 0,zI 0,zI 0,zI 0,zI 0]⟩] ro [] (fun r Y=>∃rm F LM Z,r= .tuple ⟨[.map (some rm),zI 0]⟩∧Y=LM++Z∧jP rm oU F LM∧F.map (·.1)=bI S∧MV Z F (y4 S ⟨4,1,0,0,0,0,0⟩)):=by
 obtain⟨p,q,rfl⟩:=p5 hO.two
 have yp:=hS
 obtain⟨ws,ht,dg⟩:=hS
 obtain⟨w1,w2,rfl⟩:=p5 (dg.len.trans hO.two)
 obtain⟨eP,AG,AE,dQ,rfl,AF,sr,sq⟩:=ht
 refine zE<|zD 2<|jn fun b2=>jn fun b3=>jd 8 [0]<|jp (vs:=[zI 4,zI 1,zI 7]) [] [] (fun aG hs hZ=>Bb)<|jd 18 [1,0]<|jp (vs:=[zI 1,zI 0,zI 1]) [] [] (fun aG hs hZ=>Bb)<|jd 33 [0,0,0,0]<|jp (vs:=[zI 0,zI 0,zI 1]) [] [] (fun aG hs hZ=>Bb)<|jd 36 [0,0,0]<|jne GL (wQ 0 0 0 0)<|zD 3<|js 73 (!(0==0&&(0==0&&true))) (fun h1=>?_) (fun h1=>?_)
 ·
  have fp:=h1
  try simp only[zB] at fp
  exact absurd fp (by decide)
 have fp:=h1
 try simp only[zB] at fp
 refine jd 6 [0]<|jne GL (wQ 0 0 0 0)<|zD 3<|js 82 (!(0==0&&(0==0&&true))) (fun h2=>?_) (fun h2=>?_)
 ·
  exact absurd h2 (by decide)
 refine jd 5 [1]<|jc (vs:=[.agg ⟨[.slice eP 2 dQ]⟩]) [] (Lu (yp) hO) ?_
 rintro _ _ ⟨rm,F,LM,Z,rfl,rfl,hmM,hkM,hMM⟩
 refine jg 0 [.l LM,.l Z]<|jd 10 [2,3,2]<|jp [] [] (fun aG hs hZ=>Sq)<|zD 1<|aS 7 fun BV B3 An=>jc (vs:=[.agg ⟨[.slice eP 2 dQ]⟩,.agg ⟨[zI 4,zI 1,zI 0,zI 0,zI 0,zI 0,zI 0]⟩,(.map (some rm))]) [0,1] (ao0 (s:=1) (o:=0) yp hO rfl hmM hkM hMM rfl) ?_
 rintro _ _ ⟨F2,ON,Z2,rfl,rfl,Fe,iK,hM2⟩
 refine jg 0 [.l ON,.l Z2]<|gx An [[2]]<|zD 16<|zR (.tuple ⟨[(.map (some rm)),zI 0]⟩) [] [0,1] (ON++Z2) ⟨rm,F2,ON,Z2,rfl,rfl,Fe,iK,hM2⟩
def abn(n:Nat):Int:=if n=0 then 0 else if n <2 then 1 else if n <4 then 2 else if n <8 then 3 else 4
theorem ayr:∀ {n:Nat},n≤12→dr zT 161 [zU (n:Int)] ro (zI (abn n))
 |0,_=>by refine bw ar [] [] aW (zD 35 (ja 0 (by decide) (zD 3 ?_)));exact aL q0 (zI 0) [] [] [] (Sub.refl _) ⟨_,_,rfl,rfl,rfl,rfl⟩
 |1,_=>by refine bw ar [] [] aW (zD 35 (ja 1 (by decide) (zD 3 ?_)));exact aL q0 (zI 1) [] [] [] (Sub.refl _) ⟨_,_,rfl,rfl,rfl,rfl⟩
 |2,_=>by refine bw ar [] [] aW (zD 35 (ja 2 (by decide) (zD 3 ?_)));exact aL q0 (zI 2) [] [] [] (Sub.refl _) ⟨_,_,rfl,rfl,rfl,rfl⟩
 |3,_=>by refine bw ar [] [] aW (zD 35 (ja 2 (by decide) (zD 3 ?_)));exact aL q0 (zI 2) [] [] [] (Sub.refl _) ⟨_,_,rfl,rfl,rfl,rfl⟩
 |4,_=>by refine bw ar [] [] aW (zD 35 (ja 3 (by decide) (zD 3 ?_)));exact aL q0 (zI 3) [] [] [] (Sub.refl _) ⟨_,_,rfl,rfl,rfl,rfl⟩
 |5,_=>by refine bw ar [] [] aW (zD 35 (ja 3 (by decide) (zD 3 ?_)));exact aL q0 (zI 3) [] [] [] (Sub.refl _) ⟨_,_,rfl,rfl,rfl,rfl⟩
 |6,_=>by refine bw ar [] [] aW (zD 35 (ja 3 (by decide) (zD 3 ?_)));exact aL q0 (zI 3) [] [] [] (Sub.refl _) ⟨_,_,rfl,rfl,rfl,rfl⟩
 |7,_=>by refine bw ar [] [] aW (zD 35 (ja 3 (by decide) (zD 3 ?_)));exact aL q0 (zI 3) [] [] [] (Sub.refl _) ⟨_,_,rfl,rfl,rfl,rfl⟩
 |8,_=>by refine bw ar [] [] aW (zD 35 (ja 4 (by decide) (zD 3 ?_)));exact aL q0 (zI 4) [] [] [] (Sub.refl _) ⟨_,_,rfl,rfl,rfl,rfl⟩
 |9,_=>by refine bw ar [] [] aW (zD 35 (ja 4 (by decide) (zD 3 ?_)));exact aL q0 (zI 4) [] [] [] (Sub.refl _) ⟨_,_,rfl,rfl,rfl,rfl⟩
 |10,_=>by refine bw ar [] [] aW (zD 35 (ja 4 (by decide) (zD 3 ?_)));exact aL q0 (zI 4) [] [] [] (Sub.refl _) ⟨_,_,rfl,rfl,rfl,rfl⟩
 |11,_=>by refine bw ar [] [] aW (zD 35 (ja 4 (by decide) (zD 3 ?_)));exact aL q0 (zI 4) [] [] [] (Sub.refl _) ⟨_,_,rfl,rfl,rfl,rfl⟩
 |12,_=>by refine bw ar [] [] aW (zD 35 (ja 4 (by decide) (zD 3 ?_)));exact aL q0 (zI 4) [] [] [] (Sub.refl _) ⟨_,_,rfl,rfl,rfl,rfl⟩
 |n+13,h=>absurd h (by omega)
theorem Xf(h:n≤1000):Value.int .u64 (IntKind.u64.wrap (n:Int))= zU (n:Int):=by
 rw[sB .u64 rfl _ (by omega) (by simp[IntKind.bits];omega)]
def OH(v:Value)(xs:List ah)(Y:Cells):Prop:=∃ys,ys.Perm xs∧aw v 2 79 cJ ys Y
theorem ayt(h:n≤12):dr zT 114 [zU (n:Int)] ro (zI (abn n)):=by
 refine zE<|zD 10<|jp (vs:=[zU (n:Int)]) [] [] (fun aG hs hZ=>(ayr h))<|zD 3<|zX (zI (abn n)) ⟨rfl,rfl⟩
theorem aTk{v:Value}{xs:List ah}{L:Cells}{a b:Int}(ho:aw v 2 79 cJ xs L)(hN:xs.length≤1000)(xG:0≤a∧a≤b∧b≤xs.length):dE zT 255 [v,zI a,zI b,.func (.func 184) ⟨[]⟩ ⟨[]⟩] ro L (fun r Y=>OH v xs Y):=by
 refine zC [.l L]<|zD 3<|ja (a+1) (by omega)<|zD 3<|dB [1,0,0] [] (fun(zz:Int×(List ah)×Cells)=>[(0,v),(1,zI a),(2,zI b),(3,.func (.func 184) ⟨[]⟩ ⟨[]⟩),(8,zI zz.1)]) (fun zz=>[.l zz.2.2]) (fun zz=>(a+1≤zz.1)∧aw v 2 79 cJ zz.2.1 zz.2.2∧zz.2.1.Perm xs) (fun zz=>(b-zz.1).toNat) (⟨(a+1),xs,L⟩) ⟨by dsimp only;omega,ho,.refl _⟩ [0] ?_
 rintro⟨i,ys,L⟩ hI K1 bF rest
 dsimp only at hI
 have Rn:=hI.2.2.length_eq
 refine zD 7<|zJ 14 (i <b) (fun h1=>?_) fun h1=>?_
 ·
  refine zD 10<|dB [1,0,0,1,0,0,1,0,0] [K1] (fun(zz:Int×(List ah)×Cells)=>[(0,v),(1,zI a),(2,zI b),(3,.func (.func 184) ⟨[]⟩ ⟨[]⟩),(8,zI i),(9,zI zz.1)]) (fun zz=>[.l zz.2.2]) (fun zz=>(a≤zz.1∧zz.1≤i)∧aw v 2 79 cJ zz.2.1 zz.2.2∧zz.2.1.Perm xs) (fun zz=>(zz.1-a).toNat) (⟨i,ys,L⟩) ⟨by dsimp only;omega,hI.2⟩ [0] ?_
  rintro⟨j,ys,L⟩ hJ K2 kL rest
  dsimp only at hJ
  have Rn:=hJ.2.2.length_eq
  refine zD 7<|js 3 (decide (j>a)) (fun h2=>?_) (fun h2=>?_)
  ·
   have k7:=h2
   replace k7:=of_decide_eq_true k7
   refine zD 3 ?_
   obtain⟨xk,ju⟩:=zG ys (j.toNat) (by first|omega| (simp only[List.length_set];omega))
   refine mW j 2 hJ.2.1 ju (Int.toNat_of_nonneg (show 0≤j∧j <((ys).length:Int) from (by first|omega| (simp only[List.length_set];omega))).1).symm (fun nQ VP=>?_)
   refine kJ 0 [0] L (fun s _ hZ=>bn hJ.2.1 VP hZ ju)<|zD 2<|ja (j-1) (by omega) ?_
   obtain⟨ku,fO⟩:=zG ys ((j-1).toNat) (by first|omega| (simp only[List.length_set];omega))
   refine mW (j-1) 2 hJ.2.1 fO (Int.toNat_of_nonneg (show 0≤(j-1)∧(j-1) <((ys).length:Int) from (by first|omega| (simp only[List.length_set];omega))).1).symm (fun b30 NQ=>?_)
   refine kJ 0 [0] L (fun s _ hZ=>bn hJ.2.1 NQ hZ fO)<|aS 14 fun oh ov mZ=>jp (vs:=[.agg ⟨[zI xk.n,zI xk.l]⟩,.agg ⟨[zI ku.n,zI ku.l]⟩]) [] [] (fun aG hs hZ=>(ar1 (x:=xk) (y:=ku)))<|eo mZ [0]<|zD 3<|zJ 34 ((acn xk ku) <0) (fun h4=>?_) fun h4=>?_
   ·
    refine zD 9<|ja (j-1) (by omega)<|zD 2<|ja (j-1) (by omega) ?_
    obtain⟨tC,wB⟩:=zG ys ((j-1).toNat) (by first|omega| (simp only[List.length_set];omega))
    refine mW (j-1) 2 hJ.2.1 wB (Int.toNat_of_nonneg (show 0≤(j-1)∧(j-1) <((ys).length:Int) from (by first|omega| (simp only[List.length_set];omega))).1).symm (fun b45 VN=>?_)
    refine kJ 0 [0] L (fun s _ hZ=>bn hJ.2.1 VN hZ wB)<|zD 2 ?_
    obtain⟨Ee,wA⟩:=zG ys (j.toNat) (by first|omega| (simp only[List.length_set];omega))
    refine mW j 2 hJ.2.1 wA (Int.toNat_of_nonneg (show 0≤j∧j <((ys).length:Int) from (by first|omega| (simp only[List.length_set];omega))).1).symm (fun b49 VM=>?_)
    refine kJ 0 [0] L (fun s _ hZ=>bn hJ.2.1 VM hZ wA) ?_
    obtain⟨x51,y9⟩:=zG ys (j.toNat) (by first|omega| (simp only[List.length_set];omega))
    refine mW j 2 hJ.2.1 y9 (Int.toNat_of_nonneg (show 0≤j∧j <((ys).length:Int) from (by first|omega| (simp only[List.length_set];omega))).1).symm (fun b51 VL=>?_)
    refine aS 15 fun pX p6 oZ=>E8 0 0 [zI tC.n,zI tC.l] (⟨tC.n,tC.l⟩:ah) hJ.2.1 VL y9 rfl rfl (Nat.le_of_ble_eq_true rfl) fun L6 Tx=>gx oZ [] ?_
    obtain⟨x52,sY⟩:=zG ((ys.set j.toNat (⟨tC.n,tC.l⟩:ah))) ((j-1).toNat) (by first|omega| (simp only[List.length_set];omega))
    refine mW (j-1) 2 Tx sY (Int.toNat_of_nonneg (show 0≤(j-1)∧(j-1) <(((ys.set j.toNat (⟨tC.n,tC.l⟩:ah))).length:Int) from (by first|omega| (simp only[List.length_set];omega))).1).symm (fun b52 VK=>?_)
    refine aS 17 fun yC yJ zm=>E8 0 0 [zI Ee.n,zI Ee.l] (⟨Ee.n,Ee.l⟩:ah) Tx VK sY rfl rfl (Nat.le_of_ble_eq_true rfl) fun L9 NI=>fU zm<|zD 3<|ja (j-1) (by omega)<|zD 2<|bE kL (⟨(j-1),((ys.set j.toNat (⟨tC.n,tC.l⟩:ah)).set ((j-1).toNat) (⟨Ee.n,Ee.l⟩:ah)),L9⟩) ⟨by dsimp only;omega,NI,(lZ wA wB).trans hJ.2.2⟩ (by dsimp only;omega) [0] (Sub.refl _)
   refine zD 4<|ja (i+1) (by omega)<|zD 2<|bE bF (⟨(i+1),ys,L⟩) ⟨by dsimp only;omega,hJ.2⟩ (by dsimp only;omega) [0] (Sub.refl _)
  have k7:=h2
  replace k7:=of_decide_eq_false k7
  refine zD 18<|ja (i+1) (by omega)<|zD 2<|bE bF (⟨(i+1),ys,L⟩) ⟨by dsimp only;omega,hJ.2⟩ (by dsimp only;omega) [0] (Sub.refl _)
 refine zD 2<|zR (.tuple ⟨[]⟩) [] [0] L ⟨ys,hI.2.2,hI.2.1⟩
theorem aTi{v:Value}{xs:List ah}{L:Cells}{IS:Int}(ho:aw v 2 79 cJ xs L)(hN:xs.length≤12):dE zT 237 [v,zI 0,zI (xs.length:Int),zI IS,.func (.func 184) ⟨[]⟩ ⟨[]⟩] ro L (fun r Y=>OH v xs Y):=by
 refine zC [.l L]<|zD 9<|dB [1,1,0,0] [] (fun(zz:Nat)=>[(0,v),(1,zI 0),(2,zI (xs.length:Int)),(3,zI IS),(4,.func (.func 184) ⟨[]⟩ ⟨[]⟩),(10,.bool true),(11,.bool true)]) (fun zz=>[.l L]) (fun zz=>True) (fun zz=>zz) 0 trivial [0] ?_
 rintro z hI K1 bF rest
 refine zD 5<|ja ((xs.length:Int)-0) (by omega)<|zD 8<|zJ 25 (((xs.length:Int)-0)≤12) (fun h1=>?_) fun h1=>?_
 ·
  refine zD 7<|jc (vs:=[v,zI 0,zI (xs.length:Int),.func (.func 184) ⟨[]⟩ ⟨[]⟩]) [0] (aTk ho (by omega) (by omega)) ?_
  rintro amn Y30 ⟨asH,Vu,uj⟩
  refine zD 2<|zR (.tuple ⟨[]⟩) [] [0] Y30 ⟨_,Vu,uj⟩
 exfalso;omega
theorem ajf{v:Value}{xs:List ah}{L:Cells}(ho:aw v 2 79 cJ xs L)(hN:xs.length≤12):dE zT 210 [v,.func (.func 184) ⟨[]⟩ ⟨[]⟩] ro L (fun r Y=>OH v xs Y):=by
 refine zC [.l L]<|zD 3<|CG ho<|zD 6<|je (zU (xs.length:Int)) (Xf (by omega))<|jp (vs:=[zU (xs.length:Int)]) [] [] (fun aG hs hZ=>(ayt (by omega)))<|zD 1<|jc (vs:=[v,zI 0,zI (xs.length:Int),zI (abn xs.length),.func (.func 184) ⟨[]⟩ ⟨[]⟩]) [0] (aTi ho (by omega)) ?_
 rintro atP Y13 ⟨aAF,RA,NH⟩
 refine zD 1<|zR (.tuple ⟨[]⟩) [] [0] Y13 ⟨_,RA,NH⟩
theorem aHs{v:Value}{xs:List an}{L:Cells}(ho:aw v 3 158 cK xs L)(hN:xs.length≤1):dE zT 212 [v,zI 0,zI (xs.length:Int),.func (.func 130) ⟨[]⟩ ⟨[]⟩] ro L (fun r Y=>aw v 3 158 cK xs Y):=by
 refine zC [.l L]<|zD 7<|dB [1,0,0] [] (fun(zz:Nat)=>[(0,v),(1,zI 0),(2,zI (xs.length:Int)),(3,.func (.func 130) ⟨[]⟩ ⟨[]⟩),(8,zI (0+1))]) (fun zz=>[.l L]) (fun zz=>True) (fun zz=>zz) 0 trivial [0] ?_
 rintro z hI K1 bF rest
 refine zD 7<|zJ 14 ((0+1) <(xs.length:Int)) (fun h1=>?_) fun h1=>?_
 ·
  exfalso;omega
 refine zD 2<|zR (.tuple ⟨[]⟩) [] [0] L ho
theorem aHn{v:Value}{xs:List an}{L:Cells}{IS:Int}(ho:aw v 3 158 cK xs L)(hN:xs.length≤1):dE zT 182 [v,zI 0,zI (xs.length:Int),zI IS,.func (.func 130) ⟨[]⟩ ⟨[]⟩] ro L (fun r Y=>aw v 3 158 cK xs Y):=by
 refine zC [.l L]<|zD 9<|dB [1,1,0,0] [] (fun(zz:Nat)=>[(0,v),(1,zI 0),(2,zI (xs.length:Int)),(3,zI IS),(4,.func (.func 130) ⟨[]⟩ ⟨[]⟩),(10,.bool true),(11,.bool true)]) (fun zz=>[.l L]) (fun zz=>True) (fun zz=>zz) 0 trivial [0] ?_
 rintro z hI K1 bF rest
 refine zD 5<|ja ((xs.length:Int)-0) (by omega)<|zD 8<|zJ 25 (((xs.length:Int)-0)≤12) (fun h1=>?_) fun h1=>?_
 ·
  refine zD 7<|jc (vs:=[v,zI 0,zI (xs.length:Int),.func (.func 130) ⟨[]⟩ ⟨[]⟩]) [0] (aHs ho (by omega)) ?_
  rintro amn Y30 uj
  refine zD 2<|zR (.tuple ⟨[]⟩) [] [0] Y30 uj
 exfalso;omega
theorem ayq{v:Value}{xs:List an}{L:Cells}(ho:aw v 3 158 cK xs L)(hN:xs.length≤1):dE zT 129 [v,.func (.func 130) ⟨[]⟩ ⟨[]⟩] ro L (fun r Y=>aw v 3 158 cK xs Y):=by
 refine zC [.l L]<|zD 3<|CG ho<|zD 6<|je (zU (xs.length:Int)) (Xf (by omega))<|jp (vs:=[zU (xs.length:Int)]) [] [] (fun aG hs hZ=>(ayt (by omega)))<|zD 1<|jc (vs:=[v,zI 0,zI (xs.length:Int),zI (abn xs.length),.func (.func 130) ⟨[]⟩ ⟨[]⟩]) [0] (aHn ho (by omega)) ?_
 rintro atP Y13 NH
 refine zD 1<|zR (.tuple ⟨[]⟩) [] [0] Y13 NH
theorem ajj{v:Value}{xs:List an}{L:Cells}(ho:aw v 3 158 cK xs L)(hN:xs.length≤1):dE zT 131 [v] ro L (fun r Y=>v=r∧L=Y):=by
 refine zC [.l L]<|zD 8<|CG ho<|zD 2<|zJ 8 ((xs.length:Int) <2) (fun h1=>?_) fun h1=>?_
 ·
  refine zD 7<|zR (v) [] [0] L ⟨rfl,rfl⟩
 exfalso;omega
theorem Zn{v:Value}{xs:List an}(hl:bC ro v 3 cK xs)(hN:xs.length≤1):dE zT 101 [v] ro [] (fun r Y=>aw r 3 158 cK xs Y):=by
 obtain⟨fw,rQ,rP,eL,rfl,tO,lM,mC⟩:=hl
 refine zE<|zD 7<|jc (vs:=[.slice fw xs.length eL]) [] (aTn (show bC _ _ _ _ _ from ⟨fw,rQ,rP,eL,rfl,tO,lM,mC⟩) (by first|omega| (simp only[List.length_set,zM];omega))) ?_
 rintro v5 L5 ho5
 obtain⟨va5,vc5,he5⟩:=ho5.form
 subst he5
 refine zD 5<|jc (vs:=[(.slice va5 (xs).length vc5),.func (.func 130) ⟨[]⟩ ⟨[]⟩]) [0] (ayq ho5 (by omega)) ?_
 rintro rv7 Y7 Tx
 refine zD 4<|jc (vs:=[(.slice va5 (xs).length vc5)]) [0] (ajj Tx (by omega)) ?_
 rintro _ _ ⟨rfl,rfl⟩
 refine zD 3<|zR ((.slice va5 (xs).length vc5)) [] [0] Y7 Tx
theorem MV.put{Z2:Cells}{F:List (an×Value)}{g:an→an}(h:MV Z F g){k:an}{v:Value}(hv:∀aD,Knows aD Z2→bC aD v 3 cK [g k]):MV (Z++Z2) (mi k v F) g:=by
 have h1:∀x∈mi k v F,x=(k,v)∨x∈F:=fun x hx=>by
  unfold mi at hx
  split at hx
  ·rw[E1] at hx
   obtain⟨i,hi⟩:=List.getElem?_of_mem hx
   rw[List.getElem?_set] at hi
   split at hi
   ·split at hi
    ·cases hi;exact .inl rfl
    cases hi
   exact .inr (zL hi)
  rcases List.mem_append.1 hx with h|h
  ·exact .inr h
  exact .inl (List.mem_singleton.1 h)
 intro aD hr x hx
 rcases h1 x hx with rfl|hx
 ·exact hv aD hr.right
 exact h aD hr.left x hx
theorem Px{κ:Type}[DecidableEq κ]{k x:κ}{v:Value}{F:List (κ×Value)}(h:x=k∨x∈F.map (·.1)):x∈(mi k v F).map (·.1):=by
 unfold mi
 split
 ·rename_i i u hf
  have zh:=(qv hf).2
  rw[Nat.sub_zero] at zh
  have hs:((F.set i (k,v)).map (·.1))=F.map (·.1):=by
   rw[List.map_set]
   refine List.ext_getElem? fun j=>?_
   rw[List.getElem?_set]
   split
   ·rename_i hj;subst hj;simp[zh,(List.getElem?_eq_some_iff.1 zh).1,(List.getElem?_eq_some_iff.1 zh).2]
   rfl
  rw[E1,hs]
  rcases h with rfl|h
  ·exact List.mem_map_of_mem (f:=(·.1)) (zL zh)
  exact h
 rw[List.map_append]
 rcases h with rfl|h
 ·exact List.mem_append_right _ (by simp)
 exact List.mem_append_left _ h
def Seen(es:Array MapEntry)(seen:List Nat)(F:List (an×Value)):Prop:=∀e∈es.toList,e∈cL es seen∨∃k,e.key=oU k∧k∈F.map (·.1)
theorem Seen.start{es:Array MapEntry}{F:List (an×Value)}:Seen es [] F:=fun e he=> .inl (by rw[Cy];exact he)
theorem Seen.step{es:Array MapEntry}{F0 F:List (an×Value)}(h:Seen es seen F)(hE:tA oU F0 es ck){e:MapEntry}(he:e∈cL es seen){k:an}(hk:e.key=oU k){v:Value}:Seen es (seen++[e.born]) (mi k v F):=fun x hx=>by
 rcases h x hx with h1| ⟨q,h1,h2⟩
 ·rcases U2 hE he h1 with rfl|h2
  ·exact .inr ⟨k,hk,Px (.inl rfl)⟩
  exact .inl h2
 exact .inr ⟨q,h1,Px (.inr h2)⟩
theorem anw{a b:an}(h:oU a=oU b):a=b:=by
 rcases a with ⟨x,y,z⟩;rcases b with ⟨d,e,f⟩
 simp only[oU,cK,Value.agg.injEq,Array.mk.injEq,List.cons.injEq,Value.int.injEq] at h
 simp[h.1.2,h.2.1.2,h.2.2.1.2]
theorem Seen.fin{es:Array MapEntry}{F0 F:List (an×Value)}(h:Seen es seen F)(hl:cL es seen=[])(hE:tA oU F0 es ck){k:an}(hk:k∈F0.map (·.1)):k∈F.map (·.1):=by
 obtain⟨⟨k',v⟩,h1,rfl⟩:=List.mem_map.1 hk
 have:(oU k',v)∈es.toList.map (fun e=>(e.key,e.val)):=by rw[hE.1];exact List.mem_map_of_mem (f:=fun x:an×Value=>(oU x.1,x.2)) h1
 obtain⟨e,h2,h3⟩:=List.mem_map.1 this
 simp only[Prod.mk.injEq] at h3
 rcases h e h2 with h4| ⟨q,h4,h5⟩
 ·rw[hl] at h4;cases h4
 have:=anw (h3.1.symm.trans h4);subst this;exact h5
structure Td(ro:Nat→Option Obj)(r:Nat)(H:List an)(g:an→an)(es:Array MapEntry)(ck:Nat)(F:List (an×Value)):Prop where
 m:ro r=some (.map es ck)
 e:tA oU F es ck
 k:F.map (·.1)=H
 v:∀x∈F,bC ro x.2 3 cK [g x.1]
theorem GH{a x:α}{j:Nat}(h: [a][j]?=some x):x=a∧j=0:=by
 cases j with
 |zero=>simp at h;exact⟨h.symm,rfl⟩
 |succ j=>simp at h
theorem arZ{BS:Array MapEntry}{F1:List (an×Value)}{r2 ck2:Nat}{Bo:Array MapEntry}{F2:List (an×Value)}{H:List an}{g:an→an}(I6:Td ro r1 H id BS Ja F1)(hP2:Td ro r2 H g Bo ck2 F2):dE zT 179 [(.map (some r1)),(.map (some r2))] ro [] (fun r Y=>∃rm F LM Z,r= .map (some rm)∧Y=LM++Z∧jP rm oU F LM∧(∀h∈H,h∈F.map (·.1))∧MV Z F g):=by
 refine zE<|zD 6<|jmk oU fun Gn L11 ahS=>zD 6<|jmR I6.m fun r13=>jg 0 [.b r13 (uL r1 Ja [])]<|zD 2<|n8<|dB [1,1,0,1,0,0] [] (fun(zz:(List Nat)×(List (an×Value))×Cells×Cells)=>[(1,(.map (some r2))),(4,(.map none)),(5,(.map (some Gn))),(13,zP r13)]) (fun(zz:(List Nat)×(List (an×Value))×Cells×Cells)=>[.b r13 (uL r1 Ja zz.1),.l zz.2.2.1,.l zz.2.2.2]) (fun(zz:(List Nat)×(List (an×Value))×Cells×Cells)=>jP Gn oU zz.2.1 zz.2.2.1∧Seen BS zz.1 zz.2.1∧MV zz.2.2.2 zz.2.1 g) (fun(zz:(List Nat)×(List (an×Value))×Cells×Cells)=>(cL BS zz.1).length) (⟨[],[],L11,[]⟩) ⟨ahS,Seen.start,fun _ _ _ h=>(by cases h)⟩ [1,2,0] ?_
 rintro⟨seen,F,LM,Z⟩ hI K1 bF rest
 dsimp only at hI
 refine zD 2<|jmN (it:=r13) (kv:=oU) (seen:=seen) 0 I6.m I6.e (fun O1 v14 Oe aFY td aon aPm=>?_) (fun aOM=>?_)
 ·
  have hkH:O1∈H:=by rw[←I6.k];exact List.mem_map_of_mem (f:=(·.1)) aFY
  have hvv:bC ro v14 3 cK [O1]:=I6.v _ aFY
  obtain⟨ML,qvb,qvo,BN,rfl,qvk,Qe,Qd⟩:=hvv
  refine jg 0 [.b r13 (uL r1 Ja (seen++[Oe.born]))]<|zD 8<|jmE (it:=r13) 0 I6.m I6.e td aon aPm<|jg 0 [.b r13 (uL r1 Ja (seen++[Oe.born]))]<|zD 2<|jn fun b6=>jd 15 [0]<|n8<|dB [1,1,0,1,0,0,1,1,0,1,1,0,1,0,0] [K1] (fun(zz:Nat×Value×Cells)=>[(1,(.map (some r2))),(4,(.map none)),(5,(.map (some Gn))),(6,zP b6),(8,zz.2.1),(13,zP r13),(19,.slice ML ([O1].length) BN),(20,zI ([O1].length:Int)),(21,zI (zz.1:Int))]) (fun zz=>[.l zz.2.2,.b b6 (.cells ⟨[zI O1.h,zI O1.n,zI O1.l]⟩ 158 (0,0)),.b r13 (uL r1 Ja (seen++[Oe.born])),.l LM,.l Z]) (fun zz=>zz.1≤[O1].length∧aw zz.2.1 3 158 cK ([g O1].take zz.1) zz.2.2) (fun zz=>[O1].length-zz.1) (⟨0,zS,[]⟩) ⟨by simp,aw.nil _ _ _⟩ (zN 0 5) ?_
  rintro⟨i,vO,LO⟩ hJ K2 kL rest
  dsimp only at hJ
  have RN: [O1].length=1:=rfl
  refine zD 5<|zJ 22 ((i:Int) <([O1].length:Int)) (fun h1=>?_) fun h1=>?_
  ·
   refine zD 6 ?_
   obtain⟨vk,sZ⟩:=zG ([O1]) i
   refine gY BN 3 Qe sZ<|jl 0 (Qd _ _ sZ)<|jn fun sw=>jd 2 [0] ?_
   obtain⟨hxe,hj0⟩:=GH sZ
   refine jd 4 [0]<|jlu (kv:=oU) (F:=F2) (r:=r2) (K:=158) vk (zS) false [] [] DM (fun s he _=>⟨_,_,he _ _ (.inl hP2.m),hP2.e⟩) ?_
   obtain⟨w28,aO7,awF⟩:=Yn (k:=vk) (F:=F2) (by rw[hP2.k,hxe];exact hkH)
   have hww:bC ro w28 3 cK [g vk]:=hP2.v _ awF
   obtain⟨UC,qwb,qwo,MK,rfl,qwk,qwh,qwl⟩:=hww
   refine jw 28 (.slice UC ([g vk].length) MK) (show Q7 (zS) false vk F2=_ from by simp only[Q7,aO7];rfl) ?_
   refine iE (sz:=3) (ps:=([g O1].take i)) (qs:=[g vk]) (enc:=cK) (w:= .slice UC ([g vk].length) MK) [1] [] [] (hJ.2) (fun s he _=>⟨UC,qwb,qwo,MK,rfl,qwh,fun i p hp=>(qwl i p hp).ext he⟩) (fun p _=>ai rfl) (by simp only[List.length_take,List.length_cons,List.length_nil];omega) (fun v29 L29 Ho=>?_)
   obtain⟨adU,adM,aic⟩:=Ho.form
   subst aic
   refine zD 3<|ja ((i:Int)+1) (by omega)<|zD 2<|bE kL (⟨i+1,(.slice adU ((([g O1].take i)++[g vk])).length adM),L29⟩) ⟨by dsimp only;omega,by have:=Ho;rw[hj0] at this ⊢;rw[hxe] at this;exact this⟩ (by dsimp only;omega) [0,2,3,4,5] (Sub.refl _)
  refine jd 6 [1]<|aS 3 fun oh ov mZ=>jcL (vs:=[vO]) [] [0] LO (fun aG hs hZ=>Zn (hJ.2.jW hZ) (by simp only[List.length_take,List.length_cons,List.length_nil];omega)) ?_
  rintro v34 L34 aP1
  refine eo mZ (zN 1 5)<|aS 4 fun pX p6 oZ=>jmu (kv:=oU) (F:=F) (r:=Gn) (K:=158) 4 O1 (v34) DM hI.1 fun Lm4 hm4=>fU oZ<|zD 1<|KY bF (⟨(seen++[Oe.born]),_,Lm4,Z++L34⟩) ⟨hm4,hI.2.1.step I6.e td aon,hI.2.2.put fun aD hk=>(by have:=aP1;rw[show ([g O1].take i)=[g O1] from List.take_of_length_le (by simp;omega)] at this;exact this.jW hk)⟩ (GY td) [[4],[0],[5,1]] (Sub.refl _)
 refine jg 0 [.b r13 (uL r1 Ja seen)]<|zD 11<|zR ((.map (some Gn))) [] [1,2] (LM++Z) ⟨Gn,F,LM,Z,rfl,rfl,hI.1,fun h hh=>hI.2.1.fin aOM I6.e (by rw[I6.k];exact hh),hI.2.2⟩
theorem af6{κ:Type}{kv:κ→Value}{F:List (κ×Value)}{es:Array MapEntry}(h:tA kv F es ck):es.toList.length=F.length:=by
 have:=congrArg List.length h.1
 simpa using this
theorem ajl{BS:Array MapEntry}{F1:List (an×Value)}{H:List an}{g:an→an}(I6:Td ro r1 H g BS Ja F1)(hn:H.length≤8)(hS:∀x∈F1,(g x.1).h=0∨(g x.1).h=1):dE zT 178 [(.map (some r1)),zI 2] ro [] (fun r Y=>∃a n c,r= .agg ⟨[.slice a n c]⟩):=by
 refine zE<|zD 2<|jn fun b4=>zD 4<|jmS (E:=80) (z:= zS) fun vy=>jg 0 [.b vy (.cells ⟨[zS,zS]⟩ 80 (0,0))]<|zD 1<|jn fun b5=>jd 6 [0]<|jmR I6.m fun r16=>jg 0 [.b r16 (uL r1 Ja [])]<|zD 2<|n8<|n8<|dB [1,1,0,1,0,0] [] (fun(zz:(List Nat)×Value×Cells×(List ah)×Value×Cells×(List ah))=>[(4,zP b4),(5,zP b5),(16,zP r16)]) (fun zz=>[.b r16 (uL r1 Ja zz.1),.b vy (.cells ⟨[zz.2.1,zz.2.2.2.2.1]⟩ 80 (0,0)),.l zz.2.2.1,.l zz.2.2.2.2.2.1,.b b5 (.cells ⟨[.slice (some ⟨vy,0,none⟩) 2 2]⟩ 27 (0,0)),.b b4 (.cells ⟨[zS]⟩ 27 (0,0))]) (fun zz=>zz.2.2.2.1.length+zz.2.2.2.2.2.2.length+(cL BS zz.1).length≤8∧aw zz.2.1 2 79 cJ zz.2.2.2.1 zz.2.2.1∧aw zz.2.2.2.2.1 2 79 cJ zz.2.2.2.2.2.2 zz.2.2.2.2.2.1) (fun zz=>(cL BS zz.1).length) (⟨[],zS,[],[],zS,[],[]⟩) ⟨by rw[Cy,af6 I6.e];have:=congrArg List.length I6.k;simp at this ⊢;omega,aw.nil _ _ _,aw.nil _ _ _⟩ [2,4,1,0,3,5] ?_
 rintro⟨seen,w0,L0,p0,w1,L1,p1⟩ hI K1 bF rest
 dsimp only at hI
 refine zD 2<|jmN (it:=r16) (kv:=oU) (seen:=seen) 0 I6.m I6.e (fun k17 v17 e17 aor JA abP aPk=>?_) (fun bbn=>?_)
 ·
  have hvv:bC ro v17 3 cK [g k17]:=I6.v _ aor
  obtain⟨ML,qvb,qvo,BN,rfl,qvk,Qe,Qd⟩:=hvv
  have hsg:(g k17).h=0∨(g k17).h=1:=hS _ aor
  have cI:=GY JA
  refine jg 0 [.b r16 (uL r1 Ja (seen++[e17.born]))]<|zD 8<|jmE (it:=r16) 0 I6.m I6.e JA abP aPk<|jg 0 [.b r16 (uL r1 Ja (seen++[e17.born]))]<|zD 10<|dB [1,1,0,1,0,0,1,1,0,1,1,0,0] [K1] (fun(zz:Nat×Value×Cells×(List ah)×Value×Cells×(List ah))=>[(4,zP b4),(5,zP b5),(16,zP r16),(21,.slice ML ([g k17].length) BN),(22,zI ([g k17].length:Int)),(23,zI (zz.1:Int))]) (fun zz=>[.b r16 (uL r1 Ja (seen++[e17.born])),.b vy (.cells ⟨[zz.2.1,zz.2.2.2.2.1]⟩ 80 (0,0)),.l zz.2.2.1,.l zz.2.2.2.2.2.1,.b b5 (.cells ⟨[.slice (some ⟨vy,0,none⟩) 2 2]⟩ 27 (0,0)),.b b4 (.cells ⟨[zS]⟩ 27 (0,0))]) (fun zz=>(zz.1≤1∧zz.2.2.2.1.length+zz.2.2.2.2.2.2.length+(cL BS (seen++[e17.born])).length+(1-zz.1)≤8)∧aw zz.2.1 2 79 cJ zz.2.2.2.1 zz.2.2.1∧aw zz.2.2.2.2.1 2 79 cJ zz.2.2.2.2.2.2 zz.2.2.2.2.2.1) (fun zz=>1-zz.1) (⟨0,w0,L0,p0,w1,L1,p1⟩) ⟨by dsimp only;omega,hI.2⟩ (zN 0 6) ?_
  rintro⟨i,w0,L0,p0,w1,L1,p1⟩ hJ K2 kL rest
  dsimp only at hJ
  have RN: [g k17].length=1:=rfl
  refine zD 5<|zJ 24 ((i:Int) <([g k17].length:Int)) (fun h1=>?_) fun h1=>?_
  ·
   refine zD 6 ?_
   obtain⟨xk,ju⟩:=zG ([g k17]) i
   refine gY BN 3 Qe ju<|jl 0 (Qd _ _ ju) ?_
   obtain⟨hxe,hi0⟩:=GH ju;rw[←hxe] at hsg;obtain⟨xh,xn,xl⟩:=xk;dsimp only at hsg;rcases hsg with rfl|rfl
   ·
    refine jn fun b9=>jd 11 [0,5,0,5,0]<|jd 4 [2,0]<|aS 12 fun oh ov mZ=>jn fun b39=>eo mZ (zN 1 7)<|aS 13 fun pX p6 oZ=>iE (sz:=2) (ps:=p0) (qs:=[(⟨xn,xl⟩:ah)]) (enc:=cJ) (w:= .slice (some ⟨b39,0,none⟩) 1 1) [4] [0] [(b39,.cells ⟨([(⟨xn,xl⟩:ah)].map cJ).flatten⟩ 79 (0,0))] (hJ.2.1) (fun s _ hZ=>bN [(⟨xn,xl⟩:ah)] (hZ _ (.head _)) (by intro p hp;rfl)) (fun p _=>ai rfl) (by simp only[List.length_cons,List.length_nil];omega) (fun v40 L40 Hl=>?_)
    obtain⟨as8,asY,axi⟩:=Hl.form
    subst axi
    refine gx oZ [[2],[6],[2],[6]]<|zD 1<|aS 15 fun yC yJ zm=>jd 1 [4]<|fU zm<|zD 2<|ja ((i:Int)+1) (by omega)<|zD 2<|bE kL (⟨i+1,(.slice as8 ((p0++[(⟨xn,xl⟩:ah)])).length asY),L40,(p0++[(⟨xn,xl⟩:ah)]),w1,L1,p1⟩) ⟨by simp only[zM];omega,Hl,hJ.2.2⟩ (by dsimp only;omega) [3,4,0,5,6,7] (Sub.refl _)
   refine jn fun b9=>jd 11 [0,5,0,5,0]<|jd 4 [2,0]<|aS 12 fun adj ad5 hL6=>jn fun b39=>eo hL6 (zN 1 7)<|aS 13 fun alO amc Sb=>iE (sz:=2) (ps:=p1) (qs:=[(⟨xn,xl⟩:ah)]) (enc:=cJ) (w:= .slice (some ⟨b39,0,none⟩) 1 1) [5] [0] [(b39,.cells ⟨([(⟨xn,xl⟩:ah)].map cJ).flatten⟩ 79 (0,0))] (hJ.2.2) (fun s _ hZ=>bN [(⟨xn,xl⟩:ah)] (hZ _ (.head _)) (by intro p hp;rfl)) (fun p _=>ai rfl) (by simp only[List.length_cons,List.length_nil];omega) (fun v40 L40 Hl=>?_)
   obtain⟨as8,asY,axi⟩:=Hl.form
   subst axi
   refine gx Sb [[2],[6],[2],[6]]<|zD 1<|aS 15 fun aae aat hL8=>jd 1 [4]<|fU hL8<|zD 2<|ja ((i:Int)+1) (by omega)<|zD 2<|bE kL (⟨i+1,w0,L0,p0,(.slice as8 ((p1++[(⟨xn,xl⟩:ah)])).length asY),L40,(p1++[(⟨xn,xl⟩:ah)])⟩) ⟨by simp only[zM];omega,hJ.2.1,Hl⟩ (by dsimp only;omega) [3,4,5,0,6,7] (Sub.refl _)
  refine zD 2<|bE bF (⟨(seen++[e17.born]),w0,L0,p0,w1,L1,p1⟩) ⟨by dsimp only;omega,hJ.2⟩ cI (zN 0 6) (Sub.refl _)
 refine jg 0 [.b r16 (uL r1 Ja seen)]<|jd 14 [4]<|dB [1,1,1,0,1,0,0] [] (fun(zz:Nat×Value×Cells×(List ah)×Value×Cells×(List ah))=>[(4,zP b4),(5,zP b5),(44,.slice (some ⟨vy,0,none⟩) 2 2),(45,zI 2),(46,zI (zz.1:Int))]) (fun zz=>[.b vy (.cells ⟨[zz.2.1,zz.2.2.2.2.1]⟩ 80 (0,0)),.l zz.2.2.1,.l zz.2.2.2.2.2.1,.b b5 (.cells ⟨[.slice (some ⟨vy,0,none⟩) 2 2]⟩ 27 (0,0)),.b b4 (.cells ⟨[zS]⟩ 27 (0,0))]) (fun zz=>(zz.1≤2∧zz.2.2.2.1.length≤8∧zz.2.2.2.2.2.2.length≤8)∧aw zz.2.1 2 79 cJ zz.2.2.2.1 zz.2.2.1∧aw zz.2.2.2.2.1 2 79 cJ zz.2.2.2.2.2.2 zz.2.2.2.2.2.1) (fun zz=>2-zz.1) (⟨0,w0,L0,p0,w1,L1,p1⟩) ⟨by dsimp only;omega,hI.2⟩ (zN 1 5) ?_
 rintro⟨k,w0,L0,p0,w1,L1,p1⟩ hQ K9 hK9 rest
 dsimp only at hQ
 refine zD 5<|zJ 47 ((k:Int) <2) (fun h8=>?_) fun h8=>?_
 ·
  refine zD 6 ?_
  rcases(show k=0∨k=1 by omega) with hk0|hk0
  ·
   refine jw 46 (zI 0) (show Value.int .i64 (k:Int)= zI 0 by rw[hk0];rfl) ?_
   refine jd 6 [0]<|jc (vs:=[w0,.func (.func 184) ⟨[]⟩ ⟨[]⟩]) [1] (ajf hQ.2.1 (by omega)) ?_
   rintro aMq Y51 ⟨asG,awi,aws⟩
   refine zD 5 ?_
   have hle:=awi.length_eq
   exact bE hK9 (⟨1,w0,Y51,asG,w1,L1,p1⟩) ⟨by dsimp only;omega,aws,hQ.2.2⟩ (by dsimp only;omega) [1,0,2,3,4] (Sub.refl _)
  refine jw 46 (zI 1) (show Value.int .i64 (k:Int)= zI 1 by rw[hk0];rfl) ?_
  refine jd 6 [0]<|jc (vs:=[w1,.func (.func 184) ⟨[]⟩ ⟨[]⟩]) [2] (ajf hQ.2.2 (by omega)) ?_
  rintro aMq Y51 ⟨asG,awi,aws⟩
  refine zD 5 ?_
  have hle:=awi.length_eq
  exact bE hK9 (⟨2,w0,L0,p0,w1,Y51,asG⟩) ⟨by dsimp only;omega,hQ.2.1,aws⟩ (by dsimp only;omega) [1,2,0,3,4] (Sub.refl _)
 refine jd 8 [3,4]<|zR (.agg ⟨[.slice (some ⟨vy,0,none⟩) 2 2]⟩) [4] [] [] ⟨_,_,_,rfl⟩
structure WY where
 a:Option Addr
 n:Nat
 c:Nat
 ea:Option Addr
 en:Nat
 ec:Nat
 r:Nat
abbrev ajS(t:WY):List Value:=[.slice t.a t.n t.c,.slice t.ea t.en t.ec,.map (some t.r)]
structure TrD where
 ways:List Int
 g:an→an
def aUz(ro:Nat→Option Obj)(r:Nat)(H:List an)(g:an→an):Prop:=∃es ck F,ro r=some (.map es ck)∧tA oU F es ck∧(∀h∈H,h∈F.map (·.1))∧∀y∈F,bC ro y.2 3 cK [g y.1]
def TrR(H:List an)(ro:Nat→Option Obj)(t:WY)(x:TrD):Prop:=bC ro (.slice t.a t.n t.c) 1 cm x.ways∧aUz ro t.r H x.g
def TrO(H:List an)(LL:Cells)(t:WY)(x:TrD):Prop:=∀aD,Knows aD LL→TrR H aD t x
abbrev apa(H:List an)(L:List TrD):(Nat→Option Obj)→Nat→List Value→Cells→Prop:=fun _ k vs LL=>∃x t,L[k]?=some x∧vs=[.agg ⟨ajS t⟩]∧TrO H LL t x
def atk(S:List (List ah))(l:List aO)(i:Nat):TrD:=⟨[(i:Int)],match l[i]? with
 |some c=>y4 S c
 |none=>id⟩
def db(S:List (List ah)):List (List aO)→List TrD
 | []=>[⟨[],id⟩]
 |l::_=>(List.range l.length).map (atk S l)
theorem JO{S:List (List ah)}{l:List aO}{c:aO}(h:l[i]?=some c):(db S [l])[i]?=some ⟨[(i:Int)],y4 S c⟩:=by
 have hi:=(List.getElem?_eq_some_iff.1 h).1
 simp only[db,List.getElem?_map,List.getElem?_range hi,Option.map_some,atk,h]
structure yA(ways:List (List aO)):Prop where
 one:ways.length≤1
 ok:∀l∈ways,(1≤l.length∧l.length≤3)∧∀c∈l,jA c
theorem aHW{c:aO}(h:jA c):1≤c.k∧c.k≤7:=by
 simp only[jA,List.mem_cons,List.not_mem_nil,or_false] at h
 rcases h with rfl|rfl|rfl|rfl|rfl<;>simp
theorem arY{x:an}:∀(u:List (an×an)) (y:an),u.foldl (fun y p=>if x=p.1 then p.2 else y) y=y∨∃p∈u,u.foldl (fun y p=>if x=p.1 then p.2 else y) y=p.2
 | [],y=> .inl rfl
 |p::u,y=>by
  simp only[List.foldl_cons]
  rcases arY (x:=x) u (if x=p.1 then p.2 else y) with h| ⟨q,hq,h⟩
  ·rw[h]
   split
   ·exact .inr ⟨p,by simp,rfl⟩
   exact .inl rfl
  exact .inr ⟨q,by simp[hq],h⟩
theorem ayp{u:List (an×an)}{x:an}:gU u x=x∨∃p∈u,gU u x=p.2:=arY u x
theorem afW{S:List (List ah)}{c:aO}(hc:jA c){x:an}(hx:x.h=0∨x.h=1):(y4 S c x).h=0∨(y4 S c x).h=1:=by
 rcases ayp (u:=ayF S c) (x:=x) with h| ⟨p,hp,h⟩
 ·rw[y4,h];exact hx
 rw[y4,h]
 simp only[jA,List.mem_cons,List.not_mem_nil,or_false] at hc
 rcases hc with rfl|rfl|rfl|rfl|rfl<;>simp[ayF,adZ,JY,KX,Jh,mD] at hp
 ·obtain⟨_,_,_,_,_,rfl⟩:=hp;exact .inl rfl
 ·obtain⟨_,_,rfl⟩:=hp;exact .inl rfl
 ·obtain⟨_,_,_,_,_,rfl⟩:=hp;exact .inr rfl
 ·obtain⟨_,_,rfl⟩:=hp;exact .inr rfl
 obtain⟨_,_,rfl⟩:=hp;exact .inl rfl
theorem RB{S:List (List ah)}(hO:eQ S){x:an}(hx:x∈bI S):x.h=0∨x.h=1:=by
 obtain⟨j,l,p,h1,_,_,rfl⟩:=E9.1 hx
 have:=hO.two
 simp only[mD];omega
theorem Td.up{r:Nat}{H:List an}{g:an→an}{es:Array MapEntry}{F:List (an×Value)}(h:Td ro r H g es ck F)(hs:Sub ro aD):Td aD r H g es ck F:=⟨hs _ _ h.m,h.e,h.k,fun x hx=>(h.v x hx).up hs⟩
theorem aTl{v:Value}{S:List (List ah)}{c:aO}(hc:jA c)(hS:cU ro v S)(hO:eQ S):dE zT 176 [.agg ⟨[v]⟩,.agg ⟨kO c⟩] ro [] (fun r Y=>∃rm F LM Z,r= .tuple ⟨[.map (some rm),zI 0]⟩∧Y=LM++Z∧jP rm oU F LM∧F.map (·.1)=bI S∧MV Z F (y4 S c)):=by
 simp only[jA,List.mem_cons,List.not_mem_nil,or_false] at hc
 rcases hc with rfl|rfl|rfl|rfl|rfl
 ·exact aHA hS hO
 ·exact aHz hS hO
 ·exact aHy hS hO
 ·exact aHx hS hO
 exact aHw hS hO
def JK(ro:Nat→Option Obj)(b:Nat)(S:List (List ah))(ways:List (List aO)):Prop:=∃vS vT vH fa fc,ro b=some (.cells ⟨[vS,vT,.slice fa 0 fc,vH]⟩ 195 (0,0))∧cU ro vS S∧nU ro vT ways∧bC ro vH 3 cK (bI S)
theorem JK.up{S:List (List ah)}(h:JK ro b S ways)(hs:Sub ro aD):JK aD b S ways:=by
 obtain⟨vS,vT,vH,fa,fc,h1,h2,h3,h4⟩:=h
 exact⟨vS,vT,vH,fa,fc,hs _ _ h1,h2.up hs,h3.up hs,h4.up hs⟩
theorem ayw{fa:Option Addr}{S:List (List ah)}(hS:cU ro vS S)(hO:eQ S)(hT:nU ro vT ways)(hW:yA ways):dE zT 126 [.agg ⟨[vS,vT,.slice fa 0 fc]⟩] ro [] (fun r Y=>∃b vH LH,r= .tuple ⟨[zP b,zI 0]⟩∧Y=(b,.cells ⟨[vS,vT,.slice fa 0 fc,vH]⟩ 195 (0,0))::LH∧aw vH 3 158 cK (bI S) LH):=by
 have yp:=hS
 obtain⟨ib,hs,e9⟩:=hS
 obtain⟨lu,Qi,Qg,kB,rfl,Qh,Jl,Jk⟩:=hs
 obtain⟨iN,ht,eT⟩:=id hT
 obtain⟨eP,AG,AE,dQ,rfl,AF,sr,sq⟩:=ht
 have IZ:=e9.len
 have EB:=eT.len
 have Jv:=hO.two
 have A5:=hW.one
 have OW:∀(i:Nat) (p:da),([]:List da)[i]?=some p→cA ⟨ro,[]⟩ 0 (0+i*6) 6 (mP p):=fun _ _ h=>oE h
 refine zE<|zD 2<|jn fun b1=>jd 8 [0]<|jp (vs:=[.agg ⟨[.slice lu ib.length kB]⟩]) [] [] (fun aG hs hZ=>ayv (yp.up hs) hO)<|jd 17 [0]<|zJ 21 ((iN.length:Int)>3) (fun h1=>?_) fun h1=>?_
 ·
  exfalso;omega
 refine jd 11 [0]<|dB [1,1,1,0,1,0,0] [] (fun(zz:Nat)=>[(1,zP b1),(23,.slice eP iN.length dQ),(24,zI (iN.length:Int)),(25,zI (zz:Int))]) (fun zz=>[.b b1 (.cells ⟨[.slice lu ib.length kB,.slice eP iN.length dQ,.slice fa 0 fc]⟩ 31 (0,0))]) (fun zz=>zz≤iN.length) (fun zz=>iN.length-zz) 0 (by omega) [0] ?_
 rintro k hI K1 bF rest
 refine zD 5<|zJ 26 ((k:Int) <(iN.length:Int)) (fun h2=>?_) fun h2=>?_
 ·
  refine zD 6 ?_
  obtain⟨x27,CJ⟩:=zG iN k
  refine gY dQ 1 sr CJ ?_
  obtain⟨l28,aQs,h28⟩:=eT.get CJ
  obtain awF:=hW.ok _ (zL aQs)
  obtain⟨aCU,bau,bas,aup,rfl,bat,aM8,aM7⟩:=h28
  refine jl 0 (sq _ _ CJ)<|jn fun b6=>jd 10 [0,0]<|zJ 32 ((l28.length:Int)=0) (fun h3=>?_) fun h3=>?_
  ·
   exfalso;omega
  refine jd 10 [0]<|zJ 36 ((l28.length:Int)>3) (fun h4=>?_) fun h4=>?_
  ·
   exfalso;omega
  refine jd 10 [0]<|dB [1,1,1,0,1,0,0,1,1,0,0,1,1,1,1,0,0] [K1] (fun(zz:Nat)=>[(1,zP b1),(23,.slice eP iN.length dQ),(24,zI (iN.length:Int)),(25,zI (k:Int)),(38,.slice aCU l28.length aup),(39,zI (l28.length:Int)),(40,zI (zz:Int))]) (fun zz=>[.b b6 (.cells ⟨[.slice aCU l28.length aup]⟩ 87 (0,0)),.b b1 (.cells ⟨[.slice lu ib.length kB,.slice eP iN.length dQ,.slice fa 0 fc]⟩ 31 (0,0))]) (fun zz=>zz≤l28.length) (fun zz=>l28.length-zz) 0 (by omega) [0,1] ?_
  rintro i hJ K2 kL rest
  refine zD 5<|zJ 41 ((i:Int) <(l28.length:Int)) (fun h5=>?_) fun h5=>?_
  ·
   refine zD 6 ?_
   obtain⟨x42,Vh⟩:=zG l28 i
   refine gY aup 7 aM8 Vh<|jl 0 (aM7 _ _ Vh)<|jn fun b8=>jd 3 [0] ?_
   have Ze:=aHW (awF.2 _ (zL Vh))
   refine jd 3 [0]<|jp (vs:=[zI x42.k,zI 1,zI 7]) [] [] (fun aG hs hZ=>Bb)<|zD 2<|js 47 (!(iI x42.k 1 7)) (fun h6=>?_) (fun h6=>?_)
   ·
    try simp only[zB] at h6
    exfalso;simp only[iI,Bool.and_eq_false_iff,decide_eq_false_iff_not] at h6;omega
   try simp only[zB] at h6
   refine zD 3<|ja ((i:Int)+1) (by omega)<|zD 2<|bE kL (i+1) (by omega) (by omega) [1,2] (Sub.refl _)
  refine zD 3<|ja ((k:Int)+1) (by omega)<|zD 2<|bE bF (k+1) (by omega) (by omega) [1] (Sub.refl _)
 refine jd 17 [0,0,0]<|aS 3 fun oh ov mZ=>jc (vs:=[.agg ⟨[.slice lu ib.length kB]⟩]) [] (Zo yp hO) ?_
 rintro v57 L57 aoa
 obtain⟨al4,al2,ah8⟩:=aoa.form
 subst ah8
 refine eo mZ [1]<|zD 1<|aS 5 fun pX p6 oZ=>jn fun b59=>eo oZ [1,2]<|jd 11 [2]<|dB [1,1,1,1,1,1,0,1,0,0] [] (fun(zz:Nat)=>[(1,zP b1),(9,zP b59),(61,.slice fa 0 fc),(62,zI 0),(63,zI 0)]) (fun zz=>[.b b59 (.cells ⟨[.slice lu ib.length kB,.slice eP iN.length dQ,.slice fa 0 fc,(.slice al4 (bI S).length al2)]⟩ 195 (0,0)),.l L57,.b b1 (.cells ⟨[.slice lu ib.length kB,.slice eP iN.length dQ,.slice fa 0 fc]⟩ 31 (0,0))]) (fun zz=>True) (fun zz=>zz) 0 trivial [0,1,2] ?_
 rintro z hQ K5 hK5 rest
 refine zD 14<|zR (.tuple ⟨[zP b59,zI 0]⟩) [] [0,1] ((b59,.cells ⟨[.slice lu ib.length kB,.slice eP iN.length dQ,.slice fa 0 fc,(.slice al4 (bI S).length al2)]⟩ 195 (0,0))::L57) ⟨_,_,_,rfl,rfl,aoa⟩
structure acP(ro:Nat→Option Obj)(bl b b1 b2 b3:Nat):Prop where
 t:ro b1=some (.cells ⟨[zP b]⟩ 190 (0,0))
 y:ro b2=some (.cells ⟨[.func (.yield bl) #[] #[]]⟩ 269 (0,0))
 g:ro b3=some (.cells ⟨[.func (.func 174) ⟨[]⟩ ⟨[zP b1,zP b2,zP b3]⟩]⟩ 269 (0,0))
theorem acP.up(h:acP ro bl b b1 b2 b3)(hs:Sub ro aD):acP aD bl b b1 b2 b3:=⟨hs _ _ h.t,hs _ _ h.y,hs _ _ h.g⟩
theorem aHu{t:WY}{S:List (List ah)}(I5:JK ro b S ways):dr zT 175 [zP b,.agg ⟨[.slice t.a t.n t.c,.slice t.ea t.en t.ec,(.map (some t.r))]⟩] ro (.bool true):=by
 obtain⟨vS,vT,vH,fa,fc,gb,hS,hT,hHs⟩:=I5
 have yp:=hS
 obtain⟨ib,hs,e9⟩:=hS
 obtain⟨lu,Qi,Qg,kB,rfl,Qh,Jl,Jk⟩:=hs
 obtain⟨iN,ht,eT⟩:=id hT
 obtain⟨eP,AG,AE,dQ,rfl,AF,sr,sq⟩:=ht
 have IZ:=e9.len
 have EB:=eT.len
 have OW:∀(i:Nat) (p:da),([]:List da)[i]?=some p→cA ⟨ro,[]⟩ 0 (0+i*6) 6 (mP p):=fun _ _ h=>oE h
 refine zE<|zD 2<|jn fun b3=>zD 9<|jl (b:=b) (off:=0) (m:=4) (vs:=[.slice lu ib.length kB,.slice eP iN.length dQ,.slice fa 0 fc,vH]) 2 ⟨_,_,_,.inl gb,rfl⟩<|zD 4<|dB [1,0,1,0,0] [] (fun(zz:Nat)=>[(3,zP b3),(11,.slice fa 0 fc),(12,zI 0),(13,zI 0)]) (fun zz=>[.b b3 (.cells ⟨[.slice t.a t.n t.c,.slice t.ea t.en t.ec,(.map (some t.r))]⟩ 199 (0,0))]) (fun zz=>True) (fun zz=>zz) 0 trivial [0] ?_
 rintro z hI K1 bF rest
 refine zD 12<|zX (.bool true) ⟨rfl,rfl⟩
theorem aje:dE zT 127 [zP b] ro [] (fun r Y=>∃b1,r= .func (.func 173) ⟨[]⟩ ⟨[zP b1]⟩∧Y=[(b1,.cells ⟨[zP b]⟩ 190 (0,0))]):=by
 refine zE<|zD 2<|jn fun b1=>zD 8<|zR (.func (.func 173) ⟨[]⟩ ⟨[zP b1]⟩) [] [0] [(b1,.cells ⟨[zP b]⟩ 190 (0,0))] ⟨_,rfl,rfl⟩
theorem ajg{S:List (List ah)}{L:List TrD}{Inv:Nat→Cells→Prop}{t:WY}{x:TrD}{LL:Cells}(I5:JK ro b S ways)(hC:acP ro bl b b1 b2 b3)(hn:t.n=ways.length)(hx:L[k]?=some x) (hR:TrO (bI S) LL t x) (hB:Inv k B) (hy:YOK zT bl ro L.length (apa (bI S) L) Inv Stop):dE zT 174 [.agg ⟨[.slice t.a t.n t.c,.slice t.ea t.en t.ec,(.map (some t.r))]⟩,zP b1,zP b2,zP b3] ro (LL++B) (fun r Y=>∃c,r= .bool c∧(c=true→Inv (k+1) Y)∧(c=false→Stop Y)):=by
 have aoF:=I5
 obtain⟨vS,vT,vH,fa,fc,gb,hS,hT,hHs⟩:=I5
 have yp:=hS
 obtain⟨ib,hs,e9⟩:=hS
 obtain⟨lu,Qi,Qg,kB,rfl,Qh,Jl,Jk⟩:=hs
 obtain⟨iN,ht,eT⟩:=id hT
 obtain⟨eP,AG,AE,dQ,rfl,AF,sr,sq⟩:=ht
 have IZ:=e9.len
 have EB:=eT.len
 have OW:∀(i:Nat) (p:da),([]:List da)[i]?=some p→cA ⟨ro,[]⟩ 0 (0+i*6) 6 (mP p):=fun _ _ h=>oE h
 refine zC [.l LL,.l B]<|zD 2<|jn fun b4=>jd 13 [0]<|jl (b:=b1) (off:=0) (m:=1) (vs:=[zP b]) 0 ⟨_,_,_,.inl hC.t,rfl⟩<|zD 3<|jl (b:=b) (off:=0) (m:=4) (vs:=[.slice lu ib.length kB,.slice eP iN.length dQ,.slice fa 0 fc,vH]) 1 ⟨_,_,_,.inl gb,rfl⟩<|zD 3<|zJ 21 ((t.n:Int)=(iN.length:Int)) (fun h1=>?_) fun h1=>?_
 ·
  refine zD 3<|jl (b:=b1) (off:=0) (m:=1) (vs:=[zP b]) 0 ⟨_,_,_,.inl hC.t,rfl⟩<|jd 1 [0]<|jp (vs:=[zP b,.agg ⟨[.slice t.a t.n t.c,.slice t.ea t.en t.ec,(.map (some t.r))]⟩]) [] [] (fun aG hs hZ=>aHu (t:=t) (aoF.up hs))<|zD 2<|jl (b:=b2) (off:=0) (m:=1) (vs:=[(.func (.yield bl) #[] #[])]) 0 ⟨_,_,_,.inl hC.y,rfl⟩<|jd 1 [0]<|jyc [1,2] (hy k [.agg ⟨[.slice t.a t.n t.c,.slice t.ea t.en t.ec,(.map (some t.r))]⟩] LL B ro (List.getElem?_eq_some_iff.1 hx).1 ⟨x,t,hx,rfl,hR⟩ hB (Sub.refl _)) (Sub.refl _) ?_
  intro v29 Y29 aOU
  obtain⟨c29,rfl,aRz,aRn⟩:=yb aOU
  refine zD 4<|zR (.bool c29) [] [0] Y29 ⟨_,rfl,aRz,aRn⟩
 exfalso;omega
theorem aTh{S:List (List ah)}{l:List aO}{Inv:Nat→Cells→Prop}{ea:Option Addr}{r0:Nat}{es0:Array MapEntry}{F0:List (an×Value)}(I5:JK ro b S [l])(hO:eQ S)(hW:yA [l])(hC:acP ro bl b b1 b2 b3)(hE:∀aD,Knows aD LE→cU aD (.slice ea en ec) S)(hE0:tA oU F0 es0 ck0)(hk0:F0.map (·.1)=bI S)(hM0:MV Z F0 id)(hB:Inv 0 B)(hy:YOK zT bl ro (db S [l]).length (apa (bI S) (db S [l])) Inv Stop):dE zT 174 [.agg ⟨[zS,.slice ea en ec,(.map (some r0))]⟩,zP b1,zP b2,zP b3] ro (LE++(r0,.map es0 ck0)::(Z++B)) (fun r Y=>∃c,r= .bool c∧(c=true→Inv l.length Y)∧(c=false→Stop Y)):=by
 have aoF:=I5
 obtain⟨vS,vT,vH,fa,fc,gb,hS,hT,hHs⟩:=I5
 have yp:=hS
 obtain⟨ib,hs,e9⟩:=hS
 obtain⟨w1,w2,rfl⟩:=p5 (e9.len.trans hO.two)
 obtain⟨lu,Qi,Qg,kB,rfl,Qh,Jl,Jk⟩:=hs
 obtain⟨iN,ht,eT⟩:=id hT
 obtain⟨eP,AG,AE,dQ,rfl,AF,sr,sq⟩:=ht
 have EB:=eT.len
 have OW:∀(i:Nat) (p:da),([]:List da)[i]?=some p→cA ⟨ro,[]⟩ 0 (0+i*6) 6 (mP p):=fun _ _ h=>oE h
 refine zC [.l LE,.b r0 (.map es0 ck0),.l Z,.l B]<|zD 2<|jn fun b4=>zD 1<|jf [1,2,3] (LE++((r0,.map es0 ck0)::Z)) (fun yS cg iK=>?_)
 have HH:=hE _ (Knows.left iK)
 have I6:Td yS r0 (bI S) id es0 ck0 F0:=⟨Knows.right iK _ (.head _),hE0,hk0,hM0 _ (Knows.tail (Knows.right iK))⟩
 refine jd 12 [0]<|jl (b:=b1) (off:=0) (m:=1) (vs:=[zP b]) 0 ⟨_,_,_,.inl (cg _ _ hC.t),rfl⟩<|zD 3<|jl (b:=b) (off:=0) (m:=4) (vs:=[.slice lu 2 kB,.slice eP iN.length dQ,.slice fa 0 fc,vH]) 1 ⟨_,_,_,.inl (cg _ _ gb),rfl⟩<|zD 3<|zJ 21 (0=(iN.length:Int)) (fun h4=>?_) fun h4=>?_
 ·
  exfalso;simp at EB;omega
 refine zD 4 ?_
 have Y0:iN.length=1:=EB
 refine zD 1<|jl (b:=b1) (off:=0) (m:=1) (vs:=[zP b]) 0 ⟨_,_,_,.inl (cg _ _ hC.t),rfl⟩<|zD 3<|jl (b:=b) (off:=0) (m:=4) (vs:=[.slice lu 2 kB,.slice eP iN.length dQ,.slice fa 0 fc,vH]) 1 ⟨_,_,_,.inl (cg _ _ gb),rfl⟩<|zD 1 ?_
 obtain⟨x37,abE⟩:=zG iN 0
 refine gY dQ 1 sr abE<|zD 1 ?_
 obtain⟨l39,aFF,h39⟩:=eT.get abE
 obtain aQl:=hW.ok _ (zL aFF)
 obtain aib:l39=l:=Option.some.inj (aFF.symm.trans rfl)
 obtain⟨aM5,bao,bam,aCQ,rfl,ban,aM4,aM3⟩:=h39
 refine jl 0 ((sq _ _ abE).ext (ur cg))<|zD 4<|dB [1,1,1,0,1,0,0] [] (fun(zz:Nat×Cells)=>[(1,zP b1),(3,zP b3),(4,zP b4),(39,.slice aM5 l39.length aCQ),(40,zI (l39.length:Int)),(41,zI (zz.1:Int))]) (fun zz=>[.l zz.2,.b b4 (.cells ⟨[zS,.slice ea en ec,(.map (some r0))]⟩ 199 (0,0))]) (fun zz=>zz.1≤l39.length∧Inv zz.1 zz.2) (fun zz=>l39.length-zz.1) (⟨0,B⟩) ⟨by dsimp only;omega,hB⟩ [1,0] ?_
 rintro⟨i,B⟩ hI K1 bF rest
 dsimp only at hI
 refine zD 5<|zJ 42 ((i:Int) <(l39.length:Int)) (fun h5=>?_) fun h5=>?_
 ·
  refine zD 7 ?_
  obtain⟨x44,Jt⟩:=zG l39 i
  refine gY aCQ 7 aM4 Jt<|jl 0 ((aM3 _ _ Jt).ext (ur cg))<|jn fun b8=>jd 4 [0] ?_
  have hco:=aQl.2 _ (zL Jt)
  refine jd 4 [2,0]<|jc (vs:=[.agg ⟨[.slice ea en ec]⟩,.agg ⟨[zI x44.k,zI x44.st,zI x44.ot,zI x44.fn,zI x44.fl,zI x44.tn,zI x44.tl]⟩]) [] (aTl (c:=x44) hco (HH.up (Sub.refl _)) hO) ?_
  rintro _ _ ⟨r9,F9,LM9,Z9,rfl,rfl,hm9,hk9,hM9⟩
  obtain⟨es9,ck9,rfl,hE9⟩:=hm9
  refine jg 0 [.b r9 (.map es9 ck9),.l Z9]<|zD 5<|jf [0,1] ((r9,.map es9 ck9)::Z9) (fun ro8 zb hk7=>?_)
  have hP2:Td ro8 r9 (bI S) (y4 S x44) es9 ck9 F9:=⟨hk7 _ (.head _),hE9,hk9,hM9 _ (Knows.tail hk7)⟩
  refine zD 11<|jl (b:=b3) (off:=0) (m:=1) (vs:=[.func (.func 174) ⟨[]⟩ ⟨[zP b1,zP b2,zP b3]⟩]) 0 ⟨_,_,_,.inl (zb _ _ (cg _ _ hC.g)),rfl⟩<|jd 4 [2]<|jl (b:=b1) (off:=0) (m:=1) (vs:=[zP b]) 0 ⟨_,_,_,.inl (zb _ _ (cg _ _ hC.t)),rfl⟩<|zD 4<|jl (b:=b) (off:=0) (m:=4) (vs:=[.slice lu 2 kB,.slice eP iN.length dQ,.slice fa 0 fc,vH]) 0 ⟨_,_,_,.inl (zb _ _ (cg _ _ gb)),rfl⟩<|jd 4 [2]<|IV [3,5] ⟨fun z2 t3 oZ=>?_,fun z5 t6 Sb=>?_,trivial⟩
  ·
   refine jc (vs:=[zS]) [] (aHB (bC.nil _ _ _ _ _) (by simp)) ?_
   rintro v58 L58 ahJ
   obtain⟨T1,TW,Hx⟩:=ahJ.form
   subst Hx
   refine eo oZ [1,2,3]<|aS 5 fun aae aat hL8=>jn fun b60=>eo hL8 (zN 1 4)<|aS 6 fun TO T5 Sa=>iE (sz:=1) (ps:=([]:List Int)) (qs:=[(i:Int)]) (enc:=cm) (w:= .slice (some ⟨b60,0,none⟩) 1 1) [1] [0] [(b60,.cells ⟨([(i:Int)].map cm).flatten⟩ 3 (0,0))] (ahJ) (fun s _ hZ=>bN [(i:Int)] (hZ _ (.head _)) (by intro p hp;rfl)) (fun p _=>ai rfl) (by simp only[List.length_cons,List.length_nil];omega) (fun v61 L61 Hh=>?_)
   obtain⟨adR,adJ,axe⟩:=Hh.form
   subst axe
   refine gx Sa [[4],[],[],[]]<|aS 15 fun Fx FY wG=>jc (vs:=[(.map (some r9)),zI 2]) [] (ajl (hP2.up (Sub.refl _)) (ui hO) (fun x hx=>afW hco (RB hO (by rw[←hk9];exact List.mem_map_of_mem (f:=(·.1)) hx)))) ?_
   rintro _ L70 ⟨a70,n70,c70,rfl⟩
   refine eo wG (zN 1 5)<|aS 19 fun Fw FX zn=>jc (vs:=[(.map (some r0)),(.map (some r9))]) [] (arZ (I6.up zb) (hP2.up (Sub.refl _))) ?_
   rintro _ _ ⟨r74,F74,aUE,Z74,rfl,rfl,awE,awZ,axX⟩
   obtain⟨Ob,Oo,rfl,ayd⟩:=awE
   refine jg 0 [.b r74 (.map Ob Oo),.l Z74]<|eo zn (zN 2 6)<|zD 1<|aS 21 fun Pm PJ C3=>jc (vs:=[.agg ⟨[(.slice adR ((([]:List Int)++[(i:Int)])).length adJ),.slice a70 n70 c70,(.map (some r74))]⟩,zP b1,zP b2,zP b3]) [3,0,1,6] ((show dE _ _ _ _ (L61++(r74,.map Ob Oo)::(Z74++B)) _ from by have:=ajg (t:=⟨adR,((([]:List Int)++[(i:Int)])).length,adJ,a70,n70,c70,r74⟩) (LL:=L61++(r74,.map Ob Oo)::Z74) (aoF.up (cg.trans zb)) (hC.up (cg.trans zb)) rfl (JO (by rw[←aib];exact Jt)) (fun aD hk=>⟨by simpa using Hh.jW (Knows.left hk),Ob,Oo,F74,(Knows.right hk) _ (.head _),ayd,awZ,fun y hy=>axX aD (Knows.tail (Knows.right hk)) y hy⟩) hI.2 (hy.up (cg.trans zb));rwa[List.append_assoc,List.cons_append] at this)) ?_
   rintro _ Y76 ⟨c76,rfl,axz,axt⟩
   refine gx C3 [[],[]]<|zD 2<|js 77 (!c76) (fun N0=>?_) (fun N0=>?_)
   ·
    try simp only[zB] at N0
    refine zD 6<|aL q0.a.a (.bool false) [] [0] Y76 (cg.trans zb) ⟨_,_,rfl,rfl,_,rfl,nofun,fun _=>axt (by simp_all)⟩
   try simp only[zB] at N0
   refine zD 3<|ja ((i:Int)+1) (by omega)<|zD 2<|bE bF (⟨i+1,Y76⟩) ⟨by dsimp only;omega,axz (by simp_all)⟩ (by dsimp only;omega) [0,4] zb
  refine jn fun b60=>eo Sb [1,2,3]<|aS 3 fun ap3 aqp NW=>jc (vs:=[zS]) [] (aHB (bC.nil _ _ _ _ _) (by simp)) ?_
  rintro v58 L58 ahJ
  obtain⟨T1,TW,Hx⟩:=ahJ.form
  subst Hx
  refine eo NW (zN 1 4)<|aS 6 fun aAB aBA ax6=>iE (sz:=1) (ps:=([]:List Int)) (qs:=[(i:Int)]) (enc:=cm) (w:= .slice (some ⟨b60,0,none⟩) 1 1) [0] [1] [(b60,.cells ⟨([(i:Int)].map cm).flatten⟩ 3 (0,0))] (ahJ) (fun s _ hZ=>bN [(i:Int)] (hZ _ (.head _)) (by intro p hp;rfl)) (fun p _=>ai rfl) (by simp only[List.length_cons,List.length_nil];omega) (fun v61 L61 Hh=>?_)
  obtain⟨adR,adJ,axe⟩:=Hh.form
  subst axe
  refine gx ax6 [[4],[],[],[]]<|aS 15 fun aAA aBz V2=>jc (vs:=[(.map (some r9)),zI 2]) [] (ajl (hP2.up (Sub.refl _)) (ui hO) (fun x hx=>afW hco (RB hO (by rw[←hk9];exact List.mem_map_of_mem (f:=(·.1)) hx)))) ?_
  rintro _ L70 ⟨a70,n70,c70,rfl⟩
  refine eo V2 (zN 1 5)<|aS 19 fun ap2 aqo EG=>jc (vs:=[(.map (some r0)),(.map (some r9))]) [] (arZ (I6.up zb) (hP2.up (Sub.refl _))) ?_
  rintro _ _ ⟨r74,F74,aUE,Z74,rfl,rfl,awE,awZ,axX⟩
  obtain⟨Ob,Oo,rfl,ayd⟩:=awE
  refine jg 0 [.b r74 (.map Ob Oo),.l Z74]<|eo EG (zN 2 6)<|zD 1<|aS 21 fun Xc Xm C2=>jc (vs:=[.agg ⟨[(.slice adR ((([]:List Int)++[(i:Int)])).length adJ),.slice a70 n70 c70,(.map (some r74))]⟩,zP b1,zP b2,zP b3]) [3,0,1,6] ((show dE _ _ _ _ (L61++(r74,.map Ob Oo)::(Z74++B)) _ from by have:=ajg (t:=⟨adR,((([]:List Int)++[(i:Int)])).length,adJ,a70,n70,c70,r74⟩) (LL:=L61++(r74,.map Ob Oo)::Z74) (aoF.up (cg.trans zb)) (hC.up (cg.trans zb)) rfl (JO (by rw[←aib];exact Jt)) (fun aD hk=>⟨by simpa using Hh.jW (Knows.left hk),Ob,Oo,F74,(Knows.right hk) _ (.head _),ayd,awZ,fun y hy=>axX aD (Knows.tail (Knows.right hk)) y hy⟩) hI.2 (hy.up (cg.trans zb));rwa[List.append_assoc,List.cons_append] at this)) ?_
  rintro _ Y76 ⟨c76,rfl,axz,axt⟩
  refine gx C2 [[],[]]<|zD 2<|js 77 (!c76) (fun Ln=>?_) (fun Ln=>?_)
  ·
   try simp only[zB] at Ln
   refine zD 6<|aL q0.a.a (.bool false) [] [0] Y76 (cg.trans zb) ⟨_,_,rfl,rfl,_,rfl,nofun,fun _=>axt (by simp_all)⟩
  try simp only[zB] at Ln
  refine zD 3<|ja ((i:Int)+1) (by omega)<|zD 2<|bE bF (⟨i+1,Y76⟩) ⟨by dsimp only;omega,axz (by simp_all)⟩ (by dsimp only;omega) [0,4] zb
 refine zD 7<|aL q0.a (.bool true) [] [0] B cg ⟨_,_,rfl,rfl,_,rfl,(fun _=>by have:=hI.2;rwa[show i=l.length by rw[←aib];omega] at this),nofun⟩
theorem aHt{S:List (List ah)}{Inv:Nat→Cells→Prop}{ea:Option Addr}{r0:Nat}{es0:Array MapEntry}{F0:List (an×Value)}(I5:JK ro b S ways)(hO:eQ S)(hW:yA ways)(hC:acP ro bl b b1 b2 b3)(hE:∀aD,Knows aD LE→cU aD (.slice ea en ec) S)(hE0:tA oU F0 es0 ck0)(hk0:F0.map (·.1)=bI S)(hM0:MV Z F0 id)(hB:Inv 0 B)(hy:YOK zT bl ro (db S ways).length (apa (bI S) (db S ways)) Inv Stop):
 dE zT 174 [.agg ⟨[zS,.slice ea en ec,.map (some r0)]⟩,zP b1,zP b2,zP b3] ro (LE++(r0,.map es0 ck0)::(Z++B)) (fun r Y=>∃c,r= .bool c∧(c=true→Inv (db S ways).length Y)∧(c=false→Stop Y)):=by
 match ways,hW with
 | [],_=>
  have:=ajg (t:=⟨none,0,0,ea,en,ec,r0⟩) (x:=⟨[],id⟩) (k:=0) (LL:=LE++(r0,.map es0 ck0)::Z) I5 hC rfl rfl (fun aD hk=>⟨bC.nil _ _ _ _ _,es0,ck0,F0,(Knows.right hk) _ (.head _),hE0,fun h hh=>by rw[hk0];exact hh,hM0 _ (Knows.tail (Knows.right hk))⟩) hB hy
  rwa[List.append_assoc,List.cons_append] at this
 | [l],hW=>
  refine(aTh I5 hO hW hC hE hE0 hk0 hM0 hB hy).mono fun _ _ ⟨c,h1,h2,h3⟩=>⟨c,h1,fun h=>?_,h3⟩
  rw[show (db S [l]).length=l.length by simp[db]]
  exact h2 h
 |_::_::_,hW=>exact absurd hW.one (by simp)
theorem ab3{S:List (List ah)}(g1:ro b1=some (.cells ⟨[zP b]⟩ 190 (0,0)))(I5:JK ro b S ways)(hO:eQ S)(hW:yA ways):ItX zT 173 [] [zP b1] ro [] (db S ways).length (apa (bI S) (db S ways)) (fun Z=>Z=[]):=by
 intro bl aG Inv Stop hs hy B hB
 replace g1:=hs _ _ g1
 replace I5:=I5.up hs
 have aSd:=I5
 obtain⟨vS,vT,vH,fa,fc,gb,hS,hT,hHs⟩:=I5
 have yp:=hS
 obtain⟨ib,qj,e9⟩:=hS
 obtain⟨amB,aZ5,aZ1,amA,rfl,aZ3,aZ4,aZ2⟩:=qj
 obtain⟨iN,ht,eT⟩:=id hT
 obtain⟨eP,AG,AE,dQ,rfl,AF,sr,sq⟩:=ht
 have OW:∀(i:Nat) (p:da),([]:List da)[i]?=some p→cA ⟨aG,[]⟩ 0 (0+i*6) 6 (mP p):=fun _ _ h=>oE h
 refine zC [.l B]<|zD 2<|jn fun b2=>zD 3<|jn fun b3=>jd 5 [0]<|jf [1,0] ((b2,.cells ⟨[(.func (.yield bl) #[] #[])]⟩ 269 (0,0))::[(b3,.cells ⟨[.func (.func 174) ⟨[]⟩ ⟨[zP b1,zP b2,zP b3]⟩]⟩ 269 (0,0))]) fun yS cg iK=>zD 2<|jl (b:=b3) (off:=0) (m:=1) (vs:=[.func (.func 174) ⟨[]⟩ ⟨[zP b1,zP b2,zP b3]⟩]) 0 ⟨_,_,_,.inl (iK _ (.tail _ (.head _))),rfl⟩<|jl (b:=b1) (off:=0) (m:=1) (vs:=[zP b]) 0 ⟨_,_,_,.inl (cg _ _ g1),rfl⟩<|zD 3<|jl (b:=b) (off:=0) (m:=4) (vs:=[.slice amB ib.length amA,.slice eP iN.length dQ,.slice fa 0 fc,vH]) 0 ⟨_,_,_,.inl (cg _ _ gb),rfl⟩<|jl (b:=b1) (off:=0) (m:=1) (vs:=[zP b]) 0 ⟨_,_,_,.inl (cg _ _ g1),rfl⟩<|zD 3<|jl (b:=b) (off:=0) (m:=4) (vs:=[.slice amB ib.length amA,.slice eP iN.length dQ,.slice fa 0 fc,vH]) 0 ⟨_,_,_,.inl (cg _ _ gb),rfl⟩<|aS 6 fun BV B3 An=>jc (vs:=[.agg ⟨[.slice amB ib.length amA]⟩]) [] (ao1 (yp.up cg) hO) ?_
 rintro _ L11 ⟨a11,n11,c11,rfl,aSN⟩
 refine eo An [1]<|aS 12 fun yD yK ya=>jc (vs:=[.agg ⟨[.slice amB ib.length amA]⟩]) [] (Lu (yp.up cg) hO) ?_
 rintro _ _ ⟨r17,F17,bfg,Z17,rfl,rfl,ahR,abP,aSn⟩
 obtain⟨aTx,aTK,rfl,aSM⟩:=ahR
 refine jg 0 [.b r17 (.map aTx aTK),.l Z17]<|eo ya [2,3]<|zD 1<|aS 14 fun oh ov mZ=>jc (vs:=[.agg ⟨[zS,.slice a11 n11 c11,(.map (some r17))]⟩,zP b1,zP b2,zP b3]) [2,0,1,3] (aHt (aSd.up cg) hO hW ⟨(cg _ _ g1),iK _ (.head _),iK _ (.tail _ (.head _))⟩ aSN aSM abP aSn hB (YOK.up hy cg)) ?_
 rintro _ Y19 ⟨c19,rfl,aRC,aRq⟩
 refine gx mZ [[],[]]<|zD 1<|aL q0.a (.tuple ⟨[]⟩) [] [0] Y19 cg ⟨_,_,rfl,rfl,[],Y19,rfl,rfl,by cases c19 with|true=>exact .inl (aRC rfl)|false=>exact .inr (aRq rfl)⟩
theorem FV{S:List (List ah)}(hW:yA ways):(db S ways).length≤3:=by
 match ways,hW with
 | [],_=>simp[db]
 |l::_,hW=>
  have:=(hW.ok l (by simp)).1.2
  simpa [db] using this
theorem ajk{fa:Option Addr}{S:List (List ah)}(hS:cU ro vS S)(hO:eQ S)(hT:nU ro vT ways)(hW:yA ways):FnG zT 100 [.agg ⟨[vS,vT,.slice fa 0 fc]⟩] ro [] (fun r aG Y=>∃b vl ts Lt Z,r= .tuple ⟨[zP b,vl,zI 0]⟩∧JK aG b S ways∧Y=Lt++Z∧aw vl 3 199 ajS ts Lt∧ts.length=(db S ways).length∧∀aD,Knows aD Z→di (TrR (bI S) aD) ts (db S ways)):=by
 have yp:=hS
 obtain⟨ib,hs,e9⟩:=hS
 obtain⟨lu,Qi,Qg,kB,rfl,Qh,Jl,Jk⟩:=hs
 obtain⟨iN,ht,eT⟩:=id hT
 obtain⟨eP,AG,AE,dQ,rfl,AF,sr,sq⟩:=ht
 have IZ:=e9.len
 have EB:=eT.len
 have Jv:=hO.two
 have A5:=hW.one
 have OW:∀(i:Nat) (p:da),([]:List da)[i]?=some p→cA ⟨ro,[]⟩ 0 (0+i*6) 6 (mP p):=fun _ _ h=>oE h
 refine aEc (hm:=ar) [] [] aW<|zD 2<|jn fun b1=>jd 7 [0]<|jc (vs:=[.agg ⟨[.slice lu ib.length kB,.slice eP iN.length dQ,.slice fa 0 fc]⟩]) [] (ayw yp hO hT hW) ?_
 rintro _ _ ⟨OC,aBc,aIO,rfl,rfl,awv⟩
 refine jg 0 [.b OC (.cells ⟨[.slice lu ib.length kB,.slice eP iN.length dQ,.slice fa 0 fc,aBc]⟩ 195 (0,0)),.l aIO]<|zD 5<|jf [0,1] ((OC,.cells ⟨[.slice lu ib.length kB,.slice eP iN.length dQ,.slice fa 0 fc,aBc]⟩ 195 (0,0))::aIO) (fun yS cg iK=>?_)
 have I5:JK yS OC S ways:=⟨_,_,_,_,_,iK _ (.head _),yp.up cg,hT.up cg,awv.jW (Knows.tail iK)⟩
 refine zD 10 ?_
 have hLn:(db S ways).length≤3:=FV hW
 refine zD 1<|jn fun b7=>zD 5<|jc (vs:=[zP OC]) [] (aje) ?_
 rintro _ _ ⟨aqY,rfl,rfl⟩
 refine jg 0 [.b aqY (.cells ⟨[zP OC]⟩ 190 (0,0))]<|jf [0] [(aqY,.cells ⟨[zP OC]⟩ 190 (0,0))] fun ro6 ko Y3=>zD 2<|n8<|n8<|jrf [] (ab3 (Y3 _ (.head _)) (I5.up ko) hO hW) (by rintro _ _ _ _ ⟨_,_,_,rfl,_⟩;rfl) (fun(zz:Value×Cells×(List WY)×Cells)=>[.b b7 (.cells ⟨[zz.1]⟩ 191 (0,0)),.l zz.2.1,.l zz.2.2.2]) (fun kk=>(fun(zz:Value×Cells×(List WY)×Cells)=>aw zz.1 3 199 ajS zz.2.2.1 zz.2.1∧zz.2.2.1.length=kk∧(∀aD,Knows aD zz.2.2.2→di (TrR (bI S) aD) zz.2.2.1 ((db S ways).take kk))∧(db S ways).length≤3)) (fun jump=>(fun(zz:Value×Cells×(List WY)×Cells)=>False)) (⟨zS,[],[],[]⟩) ⟨aw.nil _ _ _,rfl,fun _ _=> .nil,hLn⟩ [2,0,1] ?_ ?_ ?_
 ·
  rintro bl7 bd7 kk7 vs7 LL7 ⟨vl,Lt,ts,Z⟩ ro7 hk7 aQZ hI r5
  obtain⟨x7,t7,hx7,rfl,hR7⟩:=aQZ
  dsimp only at hI
  have bY:=(List.getElem?_eq_some_iff.1 hx7).1
  refine zD 1<|jn fun b8=>jd 2 [0]<|aEf<|jd 4 [2,0]<|jn fun OA=>iE (sz:=3) (ps:=ts) (qs:=[(⟨t7.a,t7.n,t7.c,t7.ea,t7.en,t7.ec,t7.r⟩:WY)]) (enc:=ajS) (w:= .slice (some ⟨OA,0,none⟩) 1 1) [4] [0] [(OA,.cells ⟨([(⟨t7.a,t7.n,t7.c,t7.ea,t7.en,t7.ec,t7.r⟩:WY)].map ajS).flatten⟩ 199 (0,0))] (hI.1) (fun s _ hZ=>bN [(⟨t7.a,t7.n,t7.c,t7.ea,t7.en,t7.ec,t7.r⟩:WY)] (hZ _ (.head _)) (by intro p hp;rfl)) (fun p _=>ai rfl) (by simp only[List.length_cons,List.length_nil];omega) (fun v23 L23 ze=>?_)
  obtain⟨aLQ,aLw,axl⟩:=ze.form
  subst axl
  refine jd 2 [4]<|jyn qy0 (Sub.refl _) ⟨(.slice aLQ ((ts++[(⟨t7.a,t7.n,t7.c,t7.ea,t7.en,t7.ec,t7.r⟩:WY)])).length aLw),L23,(ts++[(⟨t7.a,t7.n,t7.c,t7.ea,t7.en,t7.ec,t7.r⟩:WY)]),LL7++Z⟩ ⟨ze,by simp only[zM];omega,fun aD hk=>pW (hI.2.2.1 aD (Knows.right hk)) hx7 (hR7 aD (Knows.left hk)),hI.2.2.2⟩ [3,4,0,6,5]
 ·
  rintro bd7 ⟨vl,Lt,ts,Z⟩ Z7 hI hZ7
  dsimp only at hI
  subst hZ7
  refine jd 9 [2]<|aOp qm0.a.a.m (.tuple ⟨[zP OC,vl,zI 0]⟩) [0] [] [2,3] (Lt++Z) (Sub.refl _) ⟨_,_,_,rfl,rfl,(cg.trans ko),OC,vl,ts,Lt,Z,rfl,I5.up ko,rfl,hI.1,hI.2.1,by have:=hI.2.2.1;rwa[List.take_of_length_le (Nat.le_refl _)] at this⟩
 rintro bd7 ⟨vl,Lt,ts,Z⟩ Z7 jump hS hZ7
 exact hS.elim
def wv(t:WY):Value:= .slice t.a t.n t.c
theorem di.maps{β γ δ:Type}{R:α→β→Prop}{T:γ→δ→Prop}{f:α→γ}{g:β→δ}(h:∀a b,R a b→T (f a) (g b)):∀ {l:List α} {m:List β},di R l m→di T (l.map f) (m.map g)
 | [],[],.nil=> .nil
 |_::_,_::_,.cons h1 h2=> .cons (h _ _ h1) (di.maps h h2)
theorem aa2{y:an}{l:List an}(h:y∈l):bR (pg y.h y.n y.l) l 0≥0:=by
 have key:∀(l:List an) (k:Nat),y∈l→bR (pg y.h y.n y.l) l k≥0:=by
  intro l
  induction l with
  |nil=>intro k h;cases h
  |cons x l ih=>
   intro k h
   simp only[bR]
   cases hx:pg y.h y.n y.l x with
   |true=>simp
   |false=>
    simp only[cond_false]
    rcases List.mem_cons.1 h with rfl|h
    ·simp[pg] at hx
    exact ih _ h
 exact key l 0 h
theorem aoZ{fa:Option Addr}{S:List (List ah)}(hS:cU ro vS S)(hO:eQ S)(hT:nU ro vT ways)(hW:yA ways):dE zT 95 [.agg ⟨[vS,vT,.slice fa 0 fc]⟩] ro [] (fun r Y=>∃a n c,r= .tuple ⟨[.slice a n c,zI 0]⟩∧n=((db S ways).map (·.ways)).length∧∀lj,Knows lj Y→akD lj (.slice a n c) ((db S ways).map (·.ways))):=by
 have yp:=hS
 obtain⟨ib,hs,e9⟩:=hS
 obtain⟨lu,Qi,Qg,kB,rfl,Qh,Jl,Jk⟩:=hs
 obtain⟨iN,ht,eT⟩:=id hT
 obtain⟨eP,AG,AE,dQ,rfl,AF,sr,sq⟩:=ht
 have IZ:=e9.len
 have EB:=eT.len
 have Jv:=hO.two
 have A5:=hW.one
 have OW:∀(i:Nat) (p:da),([]:List da)[i]?=some p→cA ⟨ro,[]⟩ 0 (0+i*6) 6 (mP p):=fun _ _ h=>oE h
 have hLn:=FV (S:=S) hW
 refine zE<|zD 2<|jn fun b1=>jd 6 [0]<|jcG (vs:=[.agg ⟨[.slice lu ib.length kB,.slice eP iN.length dQ,.slice fa 0 fc]⟩]) [] (ajk yp hO hT hW) ?_
 rintro _ aG _ cg ⟨wZ,vl,ts,Lt,Z,rfl,I5,rfl,hL,htl,hA⟩
 obtain⟨uS,uT,uH,ua,uc,gb,_,_,hh⟩:=I5
 obtain⟨dI,u4,u3,du,rfl,xw,qR,qQ⟩:=hh
 obtain⟨aLS,aLy,aRe⟩:=hL.form
 subst aRe
 refine jg 0 [.l Lt,.l Z]<|zD 28<|n8<|dB [1,1,1,1,0,1,0,0] [] (fun(zz:Nat×Value×Cells)=>[(2,zS),(3,zI 0),(7,zz.2.1),(19,(.slice aLS ts.length aLy)),(20,zI (ts.length:Int)),(21,zI (zz.1:Int))]) (fun zz=>[.l zz.2.2,.l Lt,.l Z,.b b1 (.cells ⟨[.slice lu ib.length kB,.slice eP iN.length dQ,.slice fa 0 fc]⟩ 31 (0,0))]) (fun zz=>zz.1≤ts.length∧aw zz.2.1 1 22 fK ((ts.take zz.1).map wv) zz.2.2) (fun zz=>ts.length-zz.1) (⟨0,zS,[]⟩) ⟨by dsimp only;omega,aw.nil _ _ _⟩ (zN 0 4) ?_
 rintro⟨k,vO,LO⟩ hI K1 bF rest
 dsimp only at hI
 refine zD 5<|zJ 22 ((k:Int) <(ts.length:Int)) (fun h2=>?_) fun h2=>?_
 ·
  refine zD 6 ?_
  obtain⟨vk,sZ⟩:=zG ts k
  refine A0 3 hL sZ fun b23 aR1=>kJ 0 [1] Lt (fun s _ hZ=>bn hL aR1 hZ sZ)<|jn fun b9=>jd 6 [0,0]<|jn fun b28=>iE (sz:=1) (ps:=((ts.take k).map wv)) (qs:=[(.slice vk.a vk.n vk.c:Value)]) (enc:=fK) (w:= .slice (some ⟨b28,0,none⟩) 1 1) [2] [0] [(b28,.cells ⟨([(.slice vk.a vk.n vk.c:Value)].map fK).flatten⟩ 22 (0,0))] (hI.2) (fun s _ hZ=>bN [(.slice vk.a vk.n vk.c:Value)] (hZ _ (.head _)) (by intro p hp;rfl)) (by intro p hp;rw[List.mem_singleton] at hp;subst hp;exact ai rfl) (by simp only[List.length_map,List.length_take,List.length_cons,List.length_nil];omega) (fun v29 L29 Ho=>?_)
  obtain⟨adU,adM,aic⟩:=Ho.form
  subst aic
  refine zD 3<|ja ((k:Int)+1) (by omega)<|zD 2<|bE bF (⟨k+1,(.slice adU ((((ts.take k).map wv)++[(.slice vk.a vk.n vk.c:Value)])).length adM),L29⟩) ⟨by dsimp only;omega,by rw[dZ sZ,List.map_append];exact Ho⟩ (by dsimp only;omega) [0,3,4,5] (Sub.refl _)
 refine zD 3 ?_
 obtain⟨va3,vc3,he3⟩:=hI.2.form
 subst he3
 refine zD 6<|aL q0.a (.tuple ⟨[(.slice va3 (((ts.take k).map wv)).length vc3),zI 0]⟩) [] [0,2] (LO++Z) cg ⟨_,_,rfl,rfl,_,_,_,rfl,by simp only[List.length_map,List.length_take];omega,fun lj hk=>⟨_,hI.2.jW (Knows.left hk),by rw[List.take_of_length_le (by omega)];exact(hA lj (Knows.right hk)).maps fun _ _ h=>h.1⟩⟩
theorem ayn{fa:Option Addr}{S:List (List ah)}{y:an}{x:TrD}(hS:cU ro vS S)(hO:eQ S)(hT:nU ro vT ways)(hW:yA ways)(hy:y∈bI S)(hLx:db S ways=[x]):dE zT 72 [.agg ⟨[vS,vT,.slice fa 0 fc]⟩,.agg ⟨[zI y.h,zI y.n,zI y.l]⟩] ro [] (fun r Y=>∃a n c,r= .tuple ⟨[.slice a n c,zI 0]⟩∧∀lj,Knows lj Y→bC lj (.slice a n c) 3 cK [x.g y]):=by
 have yp:=hS
 obtain⟨ib,hs,e9⟩:=hS
 obtain⟨lu,Qi,Qg,kB,rfl,Qh,Jl,Jk⟩:=hs
 obtain⟨iN,ht,eT⟩:=id hT
 obtain⟨eP,AG,AE,dQ,rfl,AF,sr,sq⟩:=ht
 have IZ:=e9.len
 have EB:=eT.len
 have Jv:=hO.two
 have A5:=hW.one
 have OW:∀(i:Nat) (p:da),([]:List da)[i]?=some p→cA ⟨ro,[]⟩ 0 (0+i*6) 6 (mP p):=fun _ _ h=>oE h
 have hhl:=ui hO
 have hph:=aa2 hy
 have An:(db S ways).length=1:=by rw[hLx];rfl
 refine zE<|zD 2<|jn fun b2=>jn fun b3=>jd 6 [1]<|jcG (vs:=[.agg ⟨[.slice lu ib.length kB,.slice eP iN.length dQ,.slice fa 0 fc]⟩]) [] (ajk yp hO hT hW) ?_
 rintro _ aG _ cg ⟨ZV,vl,ts,Lt,Z,rfl,I5,rfl,hL,htl,hA⟩
 obtain⟨uS,uT,uH,ua,uc,gb,_,_,hh⟩:=I5
 obtain⟨dI,u4,u3,du,rfl,xw,qR,qQ⟩:=hh
 obtain⟨B0,Au,td⟩:=hL.form
 subst td
 refine jg 0 [.l Lt,.l Z]<|zD 22<|jl (b:=ZV) (off:=0) (m:=4) (vs:=[uS,uT,.slice ua 0 uc,.slice dI ((bI S).length) du]) 3 ⟨_,_,_,.inl gb,rfl⟩<|jd 1 [2]<|jp (vs:=[.slice dI ((bI S).length) du,.agg ⟨[zI y.h,zI y.n,zI y.l]⟩]) [] [] (fun aG hs hZ=>KW ((show bC _ _ _ _ _ from ⟨dI,u4,u3,du,rfl,xw,qR,qQ⟩).up hs) (by omega))<|zD 2<|js 27 (!(decide (bR (pg y.h y.n y.l) (bI S) 0≥0))) (fun h2=>?_) (fun h2=>?_)
 ·
  exfalso;simp_all
 refine zD 9<|zJ 30 ((ts.length:Int)=0) (fun h3=>?_) fun h3=>?_
 ·
  exfalso;omega
 refine zD 5<|jf [0,1] (Lt++Z) (fun ro6 ko Y3=>?_)
 have hLs:=hL.jW (Knows.left Y3)
 have hAs:=hA _ (Knows.right Y3)
 obtain⟨kU,IP,IN,kT,Tu,OX,Gq,Gp⟩:=hLs
 simp only[Value.slice.injEq] at Tu
 obtain⟨rfl,_,rfl⟩:=Tu
 refine zD 9<|n8<|dB [1,1,1,1,1,1,0,1,0,0] [] (fun(zz:Nat×Value×Cells)=>[(3,zP b3),(4,zS),(5,zI 0),(9,zz.2.1),(31,.slice B0 ts.length Au),(32,zI (ts.length:Int)),(33,zI (zz.1:Int))]) (fun zz=>[.l zz.2.2,.b b3 (.cells ⟨[zI y.h,zI y.n,zI y.l]⟩ 158 (0,0)),.b b2 (.cells ⟨[.slice lu ib.length kB,.slice eP iN.length dQ,.slice fa 0 fc]⟩ 31 (0,0))]) (fun zz=>zz.1≤ts.length∧aw zz.2.1 3 158 cK ([x.g y].take zz.1) zz.2.2) (fun zz=>ts.length-zz.1) (⟨0,zS,[]⟩) ⟨by dsimp only;omega,aw.nil _ _ _⟩ [0,1,2] ?_
 rintro⟨k,vO,LO⟩ hI K1 bF rest
 dsimp only at hI
 refine zD 5<|zJ 34 ((k:Int) <(ts.length:Int)) (fun h7=>?_) fun h7=>?_
 ·
  refine zD 6 ?_
  obtain⟨x35,Vj⟩:=zG ts k
  refine gY Au 3 Gq Vj<|jl 0 (Gp _ _ Vj)<|jn fun OC=>jd 2 [0] ?_
  obtain⟨q35,aEW,_,bd2,bd6,F35,aQm,aSL,aQy,aPg⟩:=hAs.get Vj
  obtain⟨hqe,hk0⟩:=GH (by rw[hLx] at aEW;exact aEW)
  replace hqe:=hqe.symm
  subst hqe
  refine jd 5 [0,2]<|jlu (kv:=oU) (F:=F35) (r:=x35.r) (K:=158) y (zS) false [] [] DM (fun s he _=>⟨_,_,he _ _ (.inl aQm),aSL⟩) ?_
  obtain⟨w41,aO6,aQk⟩:=Yn (k:=y) (F:=F35) (aQy y hy)
  have hww:bC _ w41 3 cK [x.g y]:=aPg _ aQk
  obtain⟨UC,qwb,qwo,MK,rfl,qwk,qwh,qwl⟩:=hww
  refine jw 41 (.slice UC ([x.g y].length) MK) (show Q7 (zS) false y F35=_ from by simp only[Q7,aO6];rfl) ?_
  refine iE (sz:=3) (ps:=([x.g y].take k)) (qs:=[x.g y]) (enc:=cK) (w:= .slice UC ([x.g y].length) MK) [1] [] [] (hI.2) (fun s he _=>⟨UC,qwb,qwo,MK,rfl,qwh,fun i p hp=>(qwl i p hp).ext he⟩) (fun p _=>ai rfl) (by simp only[List.length_take,List.length_cons,List.length_nil];omega) (fun v42 L42 ahx=>?_)
  obtain⟨aLK,aLq,aQ9⟩:=ahx.form
  subst aQ9
  refine zD 3<|ja ((k:Int)+1) (by omega)<|zD 2<|bE bF (⟨k+1,(.slice aLK ((([x.g y].take k)++[x.g y])).length aLq),L42⟩) ⟨by dsimp only;omega,by have:=ahx;rw[hk0] at this ⊢;exact this⟩ (by dsimp only;omega) [0,2,3] (Sub.refl _)
 refine zD 5<|jcL (vs:=[vO]) [] [0] LO (fun aG hs hZ=>Zn (hI.2.jW hZ) (by simp only[List.length_take,List.length_cons,List.length_nil];omega)) ?_
 rintro v45 L45 aFa
 obtain⟨as7,asX,axh⟩:=aFa.form
 subst axh
 refine zD 4<|aL q0.a.a (.tuple ⟨[(.slice as7 (([x.g y].take k)).length asX),zI 0]⟩) [] [0] L45 (cg.trans ko) ⟨_,_,rfl,rfl,_,_,_,rfl,fun lj hk=>by have:=aFa.jW hk;have e: [x.g y].take k=[x.g y]:=List.take_of_length_le (by simp only[List.length_cons,List.length_nil];omega);simpa only[e] using this⟩
def UK(S:List (List ah))(ways:List (List aO))(w:List Int)(x:aA):List an:=match ways,w with
 |l::_,i::_=>(match l[i.toNat]? with
  |some c=>[y4 S c ⟨x.st,x.no,0⟩]
  |none=>[])
 |_,_=>[⟨x.st,x.no,0⟩]
def WW(K:aB):List (List Int):=(db K.str K.ways).map (·.ways)
theorem WX{l:List aO}{w:List Int}(h:K.ways=[l])(hw:w∈WW K):∃(i:Nat) (c:aO),l[i]?=some c∧w=[(i:Int)]:=by
 simp only[WW,h,db,List.map_map,List.mem_map,List.mem_range,Function.comp,atk] at hw
 obtain⟨i,hi,rfl⟩:=hw
 exact⟨i,l[i],List.getElem?_eq_getElem hi,rfl⟩
theorem jz.wp(h:jz K):yA K.ways:=⟨h.ways.1,fun l hl=>⟨⟨(h.ways.2 l hl).1.1,by have:=(h.ways.2 l hl).1.2;omega⟩,(h.ways.2 l hl).2⟩⟩
theorem X3(h:jz K):K.ways=[]∨∃l,K.ways=[l]:=by
 have:=h.ways.1
 match hw:K.ways,this with
 | [],_=>exact .inl rfl
 | [l],_=>exact .inr ⟨l,rfl⟩
theorem adB(h:jz K):WV K (WW K):=by
 rcases X3 h with e| ⟨l,e⟩
 ·exact⟨by simp[WW,e,db],fun w hw=>by simp[WW,e,db] at hw;simp[hw,e],fun w hw k l n hl=>by simp[e] at hl⟩
 have hl:=(h.ways.2 l (by simp[e])).1
 refine⟨by simp[WW,e,db];omega,fun w hw=>?_,fun w hw k l' n hk hn=>?_⟩
 ·obtain⟨i,c,_,rfl⟩:=WX e hw;simp[e]
 obtain⟨i,c,hi,rfl⟩:=WX e hw
 rw[e] at hk
 obtain⟨rfl,rfl⟩:=GH hk
 obtain⟨rfl,_⟩:=GH hn
 have:=(List.getElem?_eq_some_iff.1 hi).1
 omega
theorem ad0(hK:fF ro l K)(hO:jz K):qI ro l (WW K):=by
 obtain⟨vS,vT,vc,vh,vr,vb,va,vf,fa,fc,hv,rfl,hS,hT,_⟩:=hK
 intro aG hs
 exact aoZ (hS.up hs) hO.oS (hT.up hs) hO.wp
theorem abb{S:List (List ah)}{x:aA}(h:apG S hd x):(⟨x.st,x.no,0⟩:an)∈bI S:=by
 obtain⟨l,h1,h2⟩:=h.2
 have:=Hr h1 h2
 simp only[mD] at this
 rwa[show ((x.st.toNat:Nat):Int)=x.st by have:=h.1.2.2.1;omega] at this
theorem ape{l:List aO}{c:aO}(h:l[i]?=some c):(l.take ((i:Int).toNat+1)).drop (i:Int).toNat=[c]:=by
 rw[Int.toNat_natCast,dZ h,List.drop_append_of_le_length (by have:=(List.getElem?_eq_some_iff.1 h).1;rw[List.length_take];omega),List.drop_eq_nil_of_le (by rw[List.length_take];omega)];rfl
theorem alT(hK:fF ro l K)(hO:jz K):xR ro l K (WW K) (UK K.str K.ways):=by
 obtain⟨vS,vT,vc,vh,vr,vb,va,vf,fa,fc,hv,rfl,hS,hT,_⟩:=hK
 intro w hw x hx
 have hy:=abb (hO.before.2 x hx)
 have fin:∀(t:TrD),yA (Br K.ways w)→db K.str (Br K.ways w)=[t]→UK K.str K.ways w x=[t.g ⟨x.st,x.no,0⟩]→(UK K.str K.ways w x).length≤1000∧∀aG,Sub ro aG→∀v vS' vT' vU r,[vS,vT,.slice fa 0 fc,vc,vh,vr,vb,va,zI K.gone,zI K.new,zI K.af,vf]=vS'::vT'::vU::r→nU aG v (Br K.ways w)→
  dE zT 72 [.agg ⟨[vS',v,vU]⟩,.agg ⟨[zI x.st,zI x.no,zI 0]⟩] aG [] (fun r Y=>∃a n c,r= .tuple ⟨[.slice a n c,zI 0]⟩∧∀lj,Knows lj Y→bC lj (.slice a n c) 3 cK (UK K.str K.ways w x)):=by
  intro t h1 h2 h3
  rw[h3]
  refine⟨by simp,fun aG hs v vS' vT' vU r he hv=>?_⟩
  simp only[List.cons.injEq] at he
  obtain⟨rfl,_,rfl,_⟩:=he
  exact ayn (hS.up hs) hO.oS hv h1 hy h2
 rcases X3 hO with e| ⟨l,e⟩
 ·refine fin ⟨[],id⟩ ?_ ?_ ?_
  ·rw[e];exact⟨by simp[Br],by simp[Br]⟩
  ·rw[e];simp[Br,db]
  rw[e];rfl
 obtain⟨i,c,hi,rfl⟩:=WX e hw
 have hc:Br K.ways [(i:Int)]=[[c]]:=by rw[e];simp only[Br,List.zipWith_cons_cons,List.zipWith_nil_right,ape hi]
 refine fin ⟨[0],y4 K.str c⟩ ?_ ?_ ?_
 ·rw[hc]
  refine⟨by simp,fun l' hl=>?_⟩
  rw[List.mem_singleton] at hl;subst hl
  exact⟨by simp,fun c' th=>by rw[List.mem_singleton] at th;subst th;exact(hO.ways.2 l (by simp[e])).2 _ (zL hi)⟩
 ·rw[hc];rfl
 rw[e];simp only[UK,Int.toNat_natCast,hi]
def cS(K:aB):List bG:=(WW K).map (kA K (UK K.str K.ways))
theorem oA(h:jz K):(cS K).length≤2:=by
 rw[cS,List.length_map];exact(adB h).n.2
theorem Aa(hK:fF ro l K)(hO:jz K)(hV:eG K):jk ro l K (cS K):=
 apx hK hO hV (adB hO) (ad0 hK hO) (alT hK hO)
def cF(K:aB):Nat:=(cY K (aF K) (cB K.gone K.new K.af) (cS K)).length
theorem HQ:∀(l:List Int) (a:Int),l.foldl min a≤a∧∀x∈l,l.foldl min a≤x
 | [],a=>⟨Int.le_refl _,fun _ h=>(by cases h)⟩
 |y::l,a=>by
  obtain⟨h1,h2⟩:=HQ l (min a y)
  refine⟨by simp only[List.foldl_cons];omega,fun x hx=>?_⟩
  rcases List.mem_cons.1 hx with rfl|hx
  ·simp only[List.foldl_cons];omega
  exact h2 x hx
theorem Ni{l:List Int}(h:x∈l):u6 l≤x:=by
 cases l with
 |nil=>cases h
 |cons y l=>
  rcases List.mem_cons.1 h with rfl|h
  ·exact(HQ l _).1
  exact(HQ l _).2 x h
theorem anJ(hK:fF ro l K)(hO:jz K)(hV:eG K):BU zT 48 [.agg ⟨l⟩] ro [] (fun r Y=>∃zs m e,zs.Perm (cY K (aF K) (fun _=>true) (cS K))∧Y=[]∧r= .tuple ⟨[zI m,zI e]⟩∧((zs=[]∧m=0∧e=9)∨(zs≠[]∧m=u6 (zs.map F5)∧e=0))):=
 fun fr=>Fn.mono (avs hK hV (oA hO) (Aa hK hO hV) fr) fun en s' ⟨v,Y,h1,h2,zs,h3,h4,h5⟩=>⟨v,Y,h1,h2,by
  rcases h5 with ⟨h5,h6⟩| ⟨h5,h6⟩
  ·exact⟨zs,0,9,h3,h4,h6,.inl ⟨h5,rfl,rfl⟩⟩
  exact⟨zs,_,0,h3,h4,h6,.inr ⟨h5,rfl,rfl⟩⟩⟩
theorem Rf(hK:fF ro l K)(hO:jz K)(hV:eG K):BU zT 12 [.agg ⟨l⟩] ro [] (fun r Y=>r= .tuple ⟨[zI (cF K:Int),zI 0]⟩∧Y=[]):=agx hK hV (oA hO) (Aa hK hO hV)
def DX:List Int→List Int→Bool
 | [],[]=>true
 |x::l,y::m=>decide (x=y)&&DX l m
 |_,_=>false
theorem ajL:∀ {l m:List Int},¬l.length=m.length→DX l m=false
 | [],[],h=>absurd rfl h
 | [],_::_,_=>rfl
 |_::_,[],_=>rfl
 |x::l,y::m,h=>by rw[DX,ajL (l:=l) (m:=m) (by simpa using h),Bool.and_false]
theorem ajM(hx:xs[k]?=some x) (hy:ys[k]?=some y):DX (xs.drop k) (ys.drop k)=(decide (x=y)&&DX (xs.drop (k+1)) (ys.drop (k+1))):=by rw[eB hx,eB hy];rfl
theorem ao7(hx:¬k <xs.length)(h:xs.length=ys.length):DX (xs.drop k) (ys.drop k)=true:=by rw[ep hx,ep (by omega)];rfl
def EK:List (List Int)→List (List Int)→Bool
 | [],[]=>true
 |x::l,y::m=>DX x y&&EK l m
 |_,_=>false
theorem Zx:∀ {l m:List (List Int)},¬l.length=m.length→EK l m=false
 | [],[],h=>absurd rfl h
 | [],_::_,_=>rfl
 |_::_,[],_=>rfl
 |x::l,y::m,h=>by rw[EK,Zx (l:=l) (m:=m) (by simpa using h),Bool.and_false]
theorem Zy{xs ys:List (List Int)}{x y:List Int}(hx:xs[k]?=some x) (hy:ys[k]?=some y):EK (xs.drop k) (ys.drop k)=(DX x y&&EK (xs.drop (k+1)) (ys.drop (k+1))):=by rw[eB hx,eB hy];rfl
theorem ajK{xs ys:List (List Int)}(hx:¬k <xs.length)(h:xs.length=ys.length):EK (xs.drop k) (ys.drop k)=true:=by rw[ep hx,ep (by omega)];rfl
def yx:List Int→List Int→Int
 | [],[]=>0
 | [],_::_=> -1
 |_::_,[]=>1
 |x::xs,y::ys=>if qV x y=0 then yx xs ys else qV x y
theorem SR(hx:xs[k]?=some x) (hy:ys[k]?=some y):yx (xs.drop k) (ys.drop k)=if qV x y=0 then yx (xs.drop (k+1)) (ys.drop (k+1)) else qV x y:=by rw[eB hx,eB hy];rfl
theorem aco(hx:xs[k]?=some x) (hy:¬k <ys.length):yx (xs.drop k) (ys.drop k)=1:=by rw[eB hx,ep hy];rfl
theorem LZ(hx:¬k <xs.length):yx (xs.drop k) (ys.drop k)=if k <ys.length then-1 else 0:=by
 rw[ep hx]
 split
 ·rename_i h
  rw[List.drop_eq_getElem_cons h];rfl
 rename_i h
 rw[ep h];rfl
def iD(f:Int):Nat→List Int
 |0=>[]
 |k+1=>iD f k++(bif hasB f k then [(k:Int)] else [])
theorem anq(h:hasB f (k:Int)=true):iD f (k+1)=iD f k++[(k:Int)]:=by rw[iD,h];rfl
theorem anr(h:hasB f (k:Int)=false):iD f (k+1)=iD f k:=by rw[iD,h];exact List.append_nil _
theorem KT(f:Int)(n:Nat):(iD f n).length≤n:=by
 induction n with
 |zero=>exact Nat.le_refl _
 |succ n ih=>rw[iD,List.length_append];cases hasB f (n:Int)<;>simp<;>omega
def yV(f:Int):Int:=([0,1,1,2,1,2,2,3,1,2,2,3,2,3,3,4]:List Int).getD f.toNat 0
theorem XU(h:0≤f∧f <16):0≤yV f∧yV f≤8:=by
 obtain⟨n,rfl⟩:=Int.eq_ofNat_of_zero_le h.1
 have h2:n <16:=by omega
 revert h2
 exact(by decide:∀n:Nat,n <16→0≤yV (n:Int)∧yV (n:Int)≤8) n
def kQ(x y:Int):Int:=if yV x-yV y=0 then yx (iD x 4) (iD y 4) else yV x-yV y
theorem Zz{v w:Value}(hv:bC ro v 1 cm xs)(hw:bC ro w 1 cm ys)(hx:xs.length≤1000)(hy:ys.length≤1000):dr zT 25 [v,w] ro (.bool (DX xs ys)):=by
 obtain⟨ML,qvb,qvo,BN,rfl,qvk,Qe,Qd⟩:=hv
 obtain⟨UC,qwb,qwo,MK,rfl,qwk,qwh,qwl⟩:=hw
 refine zE<|zD 13<|js 10 (!decide ((xs.length:Int)=(ys.length:Int))) (fun h1=>?_) (fun h1=>?_)
 ·
  replace h1:=of_decide_eq_false (by simpa using h1)
  refine zD 6<|zX (.bool false) ⟨by rw[ajL (by omega)],rfl⟩
 replace h1:=of_decide_eq_true (by simpa using h1)
 refine zD 8<|dB [1,1,0,1,0,0] [] (fun(zz:Nat)=>[(0,.slice ML xs.length BN),(1,.slice UC ys.length MK),(5,zI (zz:Int))]) (fun zz=>[]) (fun zz=>zz≤xs.length∧DX xs ys=DX (xs.drop zz) (ys.drop zz)) (fun zz=>xs.length-zz) 0 ⟨by omega,rfl⟩ [] ?_
 rintro k hI K1 bF rest
 refine zD 8<|zJ 14 ((k:Int) <(xs.length:Int)) (fun h2=>?_) fun h2=>?_
 ·
  refine zD 8 ?_
  obtain⟨BW,rX⟩:=zG xs k
  refine gY BN 1 Qe rX<|jl 0 (Qd _ _ rX)<|zD 2 ?_
  obtain⟨vk,sZ⟩:=zG ys k
  refine gY MK 1 qwh sZ<|jl 0 (qwl _ _ sZ)<|zD 2<|js 25 (!decide (BW=vk)) (fun h3=>?_) (fun h3=>?_)
  ·
   replace h3:=of_decide_eq_false (by simpa using h3)
   refine zD 6<|zX (.bool false) ⟨by rw[hI.2,ajM rX sZ,decide_eq_false (by omega),Bool.false_and],rfl⟩
  replace h3:=of_decide_eq_true (by simpa using h3)
  refine zD 4<|ja ((k:Int)+1) (by omega)<|zD 2<|bE bF (k+1) ⟨by omega,by rw[hI.2,ajM rX sZ,decide_eq_true (by omega),Bool.true_and]⟩ (by omega) [] (Sub.refl _)
 refine zD 7<|zX (.bool true) ⟨by rw[hI.2,ao7 (by omega) (by omega)],rfl⟩
theorem aOK{v w:Value}(hv:bC ro v 1 cm xs)(hw:bC ro w 1 cm ys)(hx:xs.length≤1000)(hy:ys.length≤1000):dr zT 88 [v,w] ro (zI (yx xs ys)):=by
 obtain⟨ML,qvb,qvo,BN,rfl,qvk,Qe,Qd⟩:=hv
 obtain⟨UC,qwb,qwo,MK,rfl,qwk,qwh,qwl⟩:=hw
 refine zE<|zD 12<|dB [1,0,1,0,0] [] (fun(zz:Nat)=>[(0,.slice ML xs.length BN),(1,.slice UC ys.length MK),(9,.slice ML xs.length BN),(10,zI (xs.length:Int)),(11,zI (zz:Int))]) (fun zz=>[]) (fun zz=>(zz≤xs.length∧zz≤ys.length)∧yx xs ys=yx (xs.drop zz) (ys.drop zz)) (fun zz=>xs.length-zz) 0 ⟨by omega,rfl⟩ [] ?_
 rintro k hI K1 bF rest
 refine zD 5<|zJ 12 ((k:Int) <(xs.length:Int)) (fun h1=>?_) fun h1=>?_
 ·
  refine zD 7 ?_
  obtain⟨fG,eE⟩:=zG xs k
  refine gY BN 1 Qe eE<|jl 0 (Qd _ _ eE)<|zD 11<|zJ 19 ((k:Int)≥(ys.length:Int)) (fun h2=>?_) fun h2=>?_
  ·
   refine zD 6<|zX (zI 1) ⟨by rw[hI.2,aco eE (by omega)],rfl⟩
  refine zD 6 ?_
  obtain⟨sj,uf⟩:=zG ys k
  refine gY MK 1 qwh uf<|jl 0 (qwl _ _ uf)<|zD 6<|jp (vs:=[zI fG,zI sj]) [] [] (fun aG hs hZ=>ayu)<|zD 7<|js 28 (!decide ((qV fG sj)=0)) (fun h3=>?_) (fun h3=>?_)
  ·
   replace h3:=of_decide_eq_false (by simpa using h3)
   refine zD 7<|zX (zI (qV fG sj)) ⟨by rw[hI.2,SR eE uf,if_neg (by omega)],rfl⟩
  replace h3:=of_decide_eq_true (by simpa using h3)
  refine zD 3<|ja ((k:Int)+1) (by omega)<|zD 2<|bE bF (k+1) ⟨by omega,by rw[hI.2,SR eE uf,if_pos (by omega)]⟩ (by omega) [] (Sub.refl _)
 refine zD 11<|zJ 35 ((xs.length:Int) <(ys.length:Int)) (fun h4=>?_) fun h4=>?_
 ·
  refine zD 6<|zX (zI (-1)) ⟨by rw[hI.2,LZ (by omega),if_pos (by omega)],rfl⟩
 refine zD 7<|zX (zI 0) ⟨by rw[hI.2,LZ (by omega),if_neg (by omega)],rfl⟩
theorem Zw:dE zT 63 [.int .u8 f] ro [] (fun r Y=>∃L,aw r 1 3 cm (iD f 4) L∧Y=L):=by
 refine zE<|zD 14<|n8<|dB [1,1,0,1,0,0] [] (fun(zz:Nat×Value×Cells)=>[(0,.int .u8 f),(2,zS),(3,zz.2.1),(5,zI (zz.1:Int))]) (fun zz=>[.l zz.2.2]) (fun zz=>zz.1≤4∧aw zz.2.1 1 3 cm (iD f zz.1) zz.2.2) (fun zz=>4-zz.1) (⟨0,zS,[]⟩) ⟨by dsimp only;omega,aw.nil _ _ _⟩ [0] ?_
 rintro⟨k,v,L⟩ hI K1 bF rest
 dsimp only at hI
 have hll:=KT f k
 refine zD 5<|zJ 6 ((k:Int) <4) (fun h1=>?_) fun h1=>?_
 ·
  refine zD 13<|jp (vs:=[.int .u8 f,zI (k:Int)]) [] [] (fun aG hs hZ=>(avu (by omega)))<|zD 1<|js 10 (hasB f (k:Int)) (fun h2=>?_) (fun h2=>?_)
  ·
   refine zD 4<|jn fun vy=>iE (sz:=1) (ps:=(iD f k)) (qs:=[(k:Int)]) (enc:=cm) (w:= .slice (some ⟨vy,0,none⟩) 1 1) [1] [0] [(vy,.cells ⟨([(k:Int)].map cm).flatten⟩ 3 (0,0))] (hI.2) (fun s _ hZ=>bN [(k:Int)] (hZ _ (.head _)) (by intro p hp;rfl)) (fun p _=>ai rfl) (by simp<;>omega) (fun v14 L14 oX=>?_)
   obtain⟨B0,Au,td⟩:=oX.form
   subst td
   refine zD 3<|ja ((k:Int)+1) (by omega)<|zD 2<|bE bF (⟨k+1,(.slice B0 (((iD f k)++[(k:Int)])).length Au),L14⟩) ⟨by dsimp only;omega,by dsimp only;rw[anq (by assumption)];exact oX⟩ (by dsimp only;omega) [0] (Sub.refl _)
  refine zD 3<|ja ((k:Int)+1) (by omega)<|zD 2<|bE bF (⟨k+1,v,L⟩) ⟨by dsimp only;omega,by dsimp only;rw[anr (by assumption)];exact hI.2⟩ (by dsimp only;omega) [0] (Sub.refl _)
 refine zD 8<|zR (v) [] [0] L ⟨_,(by rw[←show k=4 by omega];exact hI.2),rfl⟩
theorem avo:dr zT 91 [.int .u8 0] ro (zI 0):=by
 refine zE<|zD 12<|zX (zI 0) ⟨rfl,rfl⟩
theorem avn:dr zT 91 [.int .u8 1] ro (zI 1):=by
 refine zE<|zD 12<|zX (zI 1) ⟨rfl,rfl⟩
theorem avm:dr zT 91 [.int .u8 2] ro (zI 1):=by
 refine zE<|zD 12<|zX (zI 1) ⟨rfl,rfl⟩
theorem avl:dr zT 91 [.int .u8 3] ro (zI 2):=by
 refine zE<|zD 12<|zX (zI 2) ⟨rfl,rfl⟩
theorem avk:dr zT 91 [.int .u8 4] ro (zI 1):=by
 refine zE<|zD 12<|zX (zI 1) ⟨rfl,rfl⟩
theorem avj:dr zT 91 [.int .u8 5] ro (zI 2):=by
 refine zE<|zD 12<|zX (zI 2) ⟨rfl,rfl⟩
theorem avi:dr zT 91 [.int .u8 6] ro (zI 2):=by
 refine zE<|zD 12<|zX (zI 2) ⟨rfl,rfl⟩
theorem avh:dr zT 91 [.int .u8 7] ro (zI 3):=by
 refine zE<|zD 12<|zX (zI 3) ⟨rfl,rfl⟩
theorem avg:dr zT 91 [.int .u8 8] ro (zI 1):=by
 refine zE<|zD 12<|zX (zI 1) ⟨rfl,rfl⟩
theorem avf:dr zT 91 [.int .u8 9] ro (zI 2):=by
 refine zE<|zD 12<|zX (zI 2) ⟨rfl,rfl⟩
theorem anF:dr zT 91 [.int .u8 10] ro (zI 2):=by
 refine zE<|zD 12<|zX (zI 2) ⟨rfl,rfl⟩
theorem anE:dr zT 91 [.int .u8 11] ro (zI 3):=by
 refine zE<|zD 12<|zX (zI 3) ⟨rfl,rfl⟩
theorem anD:dr zT 91 [.int .u8 12] ro (zI 2):=by
 refine zE<|zD 12<|zX (zI 2) ⟨rfl,rfl⟩
theorem anC:dr zT 91 [.int .u8 13] ro (zI 3):=by
 refine zE<|zD 12<|zX (zI 3) ⟨rfl,rfl⟩
theorem anB:dr zT 91 [.int .u8 14] ro (zI 3):=by
 refine zE<|zD 12<|zX (zI 3) ⟨rfl,rfl⟩
theorem anA:dr zT 91 [.int .u8 15] ro (zI 4):=by
 refine zE<|zD 12<|zX (zI 4) ⟨rfl,rfl⟩
theorem aq6(h:0≤f∧f <16):dr zT 91 [.int .u8 f] ro (zI (yV f)):=by
 obtain rfl|rfl|rfl|rfl|rfl|rfl|rfl|rfl|rfl|rfl|rfl|rfl|rfl|rfl|rfl|rfl:=(by omega:f=0∨f=1∨f=2∨f=3∨f=4∨f=5∨f=6∨f=7∨f=8∨f=9∨f=10∨f=11∨f=12∨f=13∨f=14∨f=15)
 ·exact avo
 ·exact avn
 ·exact avm
 ·exact avl
 ·exact avk
 ·exact avj
 ·exact avi
 ·exact avh
 ·exact avg
 ·exact avf
 ·exact anF
 ·exact anE
 ·exact anD
 ·exact anC
 ·exact anB
 exact anA
def LL(ro:Nat→Option Obj)(v:Value)(W:List (List Int)):Prop:=∃ws,bC ro v 1 fK ws∧di (fun w l=>bC ro w 1 cm l) ws W
theorem ayH{v w:Value}{ws us:List Value}{W U:List (List Int)}(hv:bC ro v 1 fK ws)(hw:bC ro w 1 fK us)(ha:di (fun w l=>bC ro w 1 cm l) ws W)(hb:di (fun w l=>bC ro w 1 cm l) us U)(hx:W.length≤1000)(hy:U.length≤1000)(hW:∀l∈W,l.length≤1000)(hU:∀l∈U,l.length≤1000):dr zT 51 [v,w] ro (.bool (EK W U)):=by
 obtain⟨ML,qvb,qvo,BN,rfl,qvk,Qe,Qd⟩:=hv
 obtain⟨UC,qwb,qwo,MK,rfl,qwk,qwh,qwl⟩:=hw
 have hla:=ha.len
 have hlb:=hb.len
 refine zE<|zD 13<|js 10 (!decide ((ws.length:Int)=(us.length:Int))) (fun h1=>?_) (fun h1=>?_)
 ·
  replace h1:=of_decide_eq_false (by simpa using h1)
  refine zD 6<|zX (.bool false) ⟨by rw[Zx (by omega)],rfl⟩
 replace h1:=of_decide_eq_true (by simpa using h1)
 refine zD 8<|dB [1,1,0,1,0,0] [] (fun(zz:Nat)=>[(0,.slice ML ws.length BN),(1,.slice UC us.length MK),(5,zI (zz:Int))]) (fun zz=>[]) (fun zz=>zz≤W.length∧EK W U=EK (W.drop zz) (U.drop zz)) (fun zz=>W.length-zz) 0 ⟨by omega,rfl⟩ [] ?_
 rintro k hI K1 bF rest
 refine zD 8<|zJ 14 ((k:Int) <(ws.length:Int)) (fun h2=>?_) fun h2=>?_
 ·
  refine zD 8 ?_
  obtain⟨BW,rX⟩:=zG ws k
  refine gY BN 1 Qe rX ?_
  obtain⟨l20,awO,h20⟩:=ha.get rX
  obtain awG:=hW _ (zL awO)
  obtain⟨aC5,aNl,aNh,aC4,rfl,aNj,aNk,aNi⟩:=h20
  refine jl 0 (Qd _ _ rX)<|zD 2 ?_
  obtain⟨vk,sZ⟩:=zG us k
  refine gY MK 1 qwh sZ ?_
  obtain⟨U5,Vz,h24⟩:=hb.get sZ
  obtain aFw:=hU _ (zL Vz)
  obtain⟨auq,aCY,aCW,ae6,rfl,aCX,amJ,amI⟩:=h24
  refine jl 0 (qwl _ _ sZ)<|jp (vs:=[.slice aC5 l20.length aC4,.slice auq U5.length ae6]) [] [] (fun aG hs hZ=>Zz ((show bC _ _ _ _ _ from ⟨aC5,aNl,aNh,aC4,rfl,aNj,aNk,aNi⟩).up hs) ((show bC _ _ _ _ _ from ⟨auq,aCY,aCW,ae6,rfl,aCX,amJ,amI⟩).up hs) awG aFw)<|zD 2<|js 26 (!(DX l20 U5)) (fun h3=>?_) (fun h3=>?_)
  ·
   try simp only[zB] at h3
   refine zD 6<|zX (.bool false) ⟨by rw[hI.2,Zy awO Vz];simp_all,rfl⟩
  try simp only[zB] at h3
  refine zD 4<|ja ((k:Int)+1) (by omega)<|zD 2<|bE bF (k+1) ⟨by omega,by rw[hI.2,Zy awO Vz];simp_all⟩ (by omega) [] (Sub.refl _)
 refine zD 7<|zX (.bool true) ⟨by rw[hI.2,ajK (by omega) (by omega)],rfl⟩
theorem Q8:(iD f 4).length≤1000:=Nat.le_trans (KT f 4) (by decide)
def Et:Nat→List Int→List Int
 |0,ys=>ys
 |j+1,ys=>if kQ (ys.getD (j+1) 0) (ys.getD j 0) <0 then Et j ((ys.set (j+1) (ys.getD j 0)).set j (ys.getD (j+1) 0)) else ys
def Gb:Nat→Nat→List Int→List Int
 |0,_,ys=>ys
 |n+1,i,ys=>Gb n (i+1) (Et i ys)
def Az(xs:List Int):List Int:=Gb (xs.length-1) 1 xs
theorem abv(h:¬j>0):Et j.toNat ys=ys:=by rw[show j.toNat=0 by omega];rfl
theorem Sn(h:ys[i]?=some x):ys.getD i 0=x:=by rw[List.getD_eq_getElem?_getD,h];rfl
theorem abw(hj:j>0)(hx:ys[j.toNat]?=some x) (hy:ys[(j-1).toNat]?=some y) (h:¬kQ x y <0):Et j.toNat ys=ys:=by
 have e:j.toNat=(j-1).toNat+1:=by omega
 rw[e] at hx ⊢
 rw[Et,Sn hx,Sn hy,if_neg h]
theorem YF{x' y':Int}(hj:j>0)(hx:ys[j.toNat]?=some x) (hy:ys[(j-1).toNat]?=some y) (kV:ys[j.toNat]?=some x') (O2:ys[(j-1).toNat]?=some y') (h:kQ x y <0):Et j.toNat ys=Et (j-1).toNat ((ys.set j.toNat y').set (j-1).toNat x'):=by
 rw[hx] at kV;rw[hy] at O2;cases kV;cases O2
 have e:j.toNat=(j-1).toNat+1:=by omega
 rw[e] at hx ⊢
 rw[Et,Sn hx,Sn hy,if_pos h]
def BE(v:Value)(xs:List Int)(Y:Cells):Prop:=∃ys,ys=Az xs∧aw v 1 105 uV ys Y
theorem Uh{i:Int}(h:Az xs=Gb (n-i.toNat) i.toNat ys)(hi:0≤i∧i <n):Az xs=Gb (n-(i+1).toNat) (i+1).toNat (Et i.toNat ys):=by
 rw[h,show n-i.toNat=(n-(i+1).toNat)+1 by omega,show (i+1).toNat=i.toNat+1 by omega];rfl
theorem aaz{i:Int}(h:Az xs=Gb (n-i.toNat) i.toNat ys)(hi:¬i <n):ys=Az xs:=by
 rw[h,show n-i.toNat=0 by omega];rfl
theorem Q4(hx:0≤x∧x <16)(hy:0≤y∧y <16):dr zT 90 [.int .u8 x,.int .u8 y] ro (zI (kQ x y)):=by
 have hpx:=XU hx
 have hpy:=XU hy
 refine zE<|zD 8<|jp (vs:=[.int .u8 x]) [] [] (fun aG hs hZ=>(aq6 hx))<|zD 1<|jp (vs:=[.int .u8 y]) [] [] (fun aG hs hZ=>(aq6 hy))<|ja ((yV x)-(yV y)) (by omega)<|zD 7<|js 12 (!decide (((yV x)-(yV y))=0)) (fun h1=>?_) (fun h1=>?_)
 ·
  replace h1:=of_decide_eq_false (by simpa using h1)
  refine zD 7<|zX (zI ((yV x)-(yV y))) ⟨by rw[kQ,if_neg (by omega)],rfl⟩
 replace h1:=of_decide_eq_true (by simpa using h1)
 refine zD 5<|jc (vs:=[.int .u8 x]) [] (Zw) ?_
 rintro v15 L15 ⟨_,awu,rfl⟩
 refine zD 1<|jc (vs:=[.int .u8 y]) [] (Zw) ?_
 rintro v17 L17 ⟨_,uk,rfl⟩
 refine jp (vs:=[v15,v17]) [1,0] (L15++L17) (fun aG hs hZ=>aOK (awu.jW hZ.left) (uk.jW hZ.right) Q8 Q8)<|zD 3<|zX (zI (yx (iD x 4) (iD y 4))) ⟨by rw[kQ,if_pos (by omega)],rfl⟩
theorem aOa{v:Value}{L:Cells}(ho:aw v 1 105 uV xs L)(hN:xs.length≤12)(hM:∀m∈xs,0≤m∧m <16):dE zT 152 [v,zI 0,zI (xs.length:Int),.func (.func 90) ⟨[]⟩ ⟨[]⟩] ro L (fun r Y=>BE v xs Y):=by
 refine zC [.l L]<|zD 7<|dB [1,0,0] [] (fun(zz:Int×(List Int)×Cells)=>[(0,v),(1,zI 0),(2,zI (xs.length:Int)),(3,.func (.func 90) ⟨[]⟩ ⟨[]⟩),(8,zI zz.1)]) (fun zz=>[.l zz.2.2]) (fun zz=>(1≤zz.1)∧aw v 1 105 uV zz.2.1 zz.2.2∧zz.2.1.Perm xs∧Az xs=Gb (xs.length-zz.1.toNat) zz.1.toNat zz.2.1) (fun zz=>((xs.length:Int)-zz.1).toNat) (⟨1,xs,L⟩) ⟨by dsimp only;omega,ho,.refl _,rfl⟩ [0] ?_
 rintro⟨i,ys,L⟩ hI K1 bF rest
 dsimp only at hI
 have Rn:=hI.2.2.1.length_eq
 have hym:∀m∈ys,0≤m∧m <16:=fun m hm=>hM m (hI.2.2.1.mem_iff.1 hm)
 refine zD 7<|zJ 14 (i <(xs.length:Int)) (fun h1=>?_) fun h1=>?_
 ·
  refine zD 10<|dB [1,0,0,1,0,0,1,0,0] [K1] (fun(zz:Int×(List Int)×Cells)=>[(0,v),(1,zI 0),(2,zI (xs.length:Int)),(3,.func (.func 90) ⟨[]⟩ ⟨[]⟩),(8,zI i),(9,zI zz.1)]) (fun zz=>[.l zz.2.2]) (fun zz=>(0≤zz.1∧zz.1≤i)∧aw v 1 105 uV zz.2.1 zz.2.2∧zz.2.1.Perm xs∧Az xs=Gb (xs.length-(i+1).toNat) (i+1).toNat (Et zz.1.toNat zz.2.1)) (fun zz=>zz.1.toNat) (⟨i,ys,L⟩) ⟨by dsimp only;omega,hI.2.1,hI.2.2.1,Uh hI.2.2.2 (by omega)⟩ [0] ?_
  rintro⟨j,ys,L⟩ hJ K2 kL rest
  dsimp only at hJ
  have Rn:=hJ.2.2.1.length_eq
  have hym:∀m∈ys,0≤m∧m <16:=fun m hm=>hM m (hJ.2.2.1.mem_iff.1 hm)
  refine zD 7<|js 3 (decide (j>0)) (fun h2=>?_) (fun h2=>?_)
  ·
   have k7:=h2
   replace k7:=of_decide_eq_true k7
   refine zD 3 ?_
   obtain⟨xk,ju⟩:=zG ys (j.toNat) (by first|omega| (simp only[List.length_set];omega))
   refine mW j 1 hJ.2.1 ju (Int.toNat_of_nonneg (show 0≤j∧j <((ys).length:Int) from (by first|omega| (simp only[List.length_set];omega))).1).symm (fun nQ VP=>?_)
   refine kJ 0 [0] L (fun s _ hZ=>bn hJ.2.1 VP hZ ju)<|zD 2<|ja (j-1) (by omega) ?_
   obtain⟨ku,fO⟩:=zG ys ((j-1).toNat) (by first|omega| (simp only[List.length_set];omega))
   refine mW (j-1) 1 hJ.2.1 fO (Int.toNat_of_nonneg (show 0≤(j-1)∧(j-1) <((ys).length:Int) from (by first|omega| (simp only[List.length_set];omega))).1).symm (fun b30 NQ=>?_)
   refine kJ 0 [0] L (fun s _ hZ=>bn hJ.2.1 NQ hZ fO)<|aS 14 fun oh ov mZ=>jp (vs:=[.int .u8 xk,.int .u8 ku]) [] [] (fun aG hs hZ=>(Q4 (hym _ (zL ju)) (hym _ (zL fO))))<|eo mZ [0]<|zD 3<|zJ 34 ((kQ xk ku) <0) (fun h4=>?_) fun h4=>?_
   ·
    refine zD 9<|ja (j-1) (by omega)<|zD 2<|ja (j-1) (by omega) ?_
    obtain⟨tC,wB⟩:=zG ys ((j-1).toNat) (by first|omega| (simp only[List.length_set];omega))
    refine mW (j-1) 1 hJ.2.1 wB (Int.toNat_of_nonneg (show 0≤(j-1)∧(j-1) <((ys).length:Int) from (by first|omega| (simp only[List.length_set];omega))).1).symm (fun b45 VN=>?_)
    refine kJ 0 [0] L (fun s _ hZ=>bn hJ.2.1 VN hZ wB)<|zD 2 ?_
    obtain⟨Ee,wA⟩:=zG ys (j.toNat) (by first|omega| (simp only[List.length_set];omega))
    refine mW j 1 hJ.2.1 wA (Int.toNat_of_nonneg (show 0≤j∧j <((ys).length:Int) from (by first|omega| (simp only[List.length_set];omega))).1).symm (fun b49 VM=>?_)
    refine kJ 0 [0] L (fun s _ hZ=>bn hJ.2.1 VM hZ wA) ?_
    obtain⟨x51,y9⟩:=zG ys (j.toNat) (by first|omega| (simp only[List.length_set];omega))
    refine mW j 1 hJ.2.1 y9 (Int.toNat_of_nonneg (show 0≤j∧j <((ys).length:Int) from (by first|omega| (simp only[List.length_set];omega))).1).symm (fun b51 VL=>?_)
    refine aS 15 fun pX p6 oZ=>E8 0 0 [.int .u8 tC] tC hJ.2.1 VL y9 rfl rfl (Nat.le_of_ble_eq_true rfl) fun L6 Tx=>gx oZ [] ?_
    obtain⟨x52,sY⟩:=zG ((ys.set j.toNat tC)) ((j-1).toNat) (by first|omega| (simp only[List.length_set];omega))
    refine mW (j-1) 1 Tx sY (Int.toNat_of_nonneg (show 0≤(j-1)∧(j-1) <(((ys.set j.toNat tC)).length:Int) from (by first|omega| (simp only[List.length_set];omega))).1).symm (fun b52 VK=>?_)
    refine aS 17 fun yC yJ zm=>E8 0 0 [.int .u8 Ee] Ee Tx VK sY rfl rfl (Nat.le_of_ble_eq_true rfl) fun L9 NI=>fU zm<|zD 3<|ja (j-1) (by omega)<|zD 2<|bE kL (⟨(j-1),((ys.set j.toNat tC).set ((j-1).toNat) Ee),L9⟩) ⟨by dsimp only;omega,NI,(lZ wA wB).trans hJ.2.2.1,by dsimp only;rw[hJ.2.2.2,YF (by omega) ju fO wA wB (by assumption)]⟩ (by dsimp only;omega) [0] (Sub.refl _)
   refine zD 4<|ja (i+1) (by omega)<|zD 2<|bE bF (⟨(i+1),ys,L⟩) ⟨by dsimp only;omega,hJ.2.1,hJ.2.2.1,by dsimp only;rw[hJ.2.2.2,abw (by omega) ju fO (by assumption)]⟩ (by dsimp only;omega) [0] (Sub.refl _)
  have k7:=h2
  replace k7:=of_decide_eq_false k7
  refine zD 18<|ja (i+1) (by omega)<|zD 2<|bE bF (⟨(i+1),ys,L⟩) ⟨by dsimp only;omega,hJ.2.1,hJ.2.2.1,by dsimp only;rw[hJ.2.2.2,abv (by omega)]⟩ (by dsimp only;omega) [0] (Sub.refl _)
 refine zD 2<|zR (.tuple ⟨[]⟩) [] [0] L ⟨ys,aaz hI.2.2.2 (by omega),hI.2.1⟩
theorem apC(h:K.facts.length≤3):IntKind.u8.wrap (aF K+1)=((2^K.facts.length:Nat):Int):=by
 unfold aF
 generalize K.facts.length=n at h
 obtain rfl|rfl|rfl|rfl:n=0∨n=1∨n=2∨n=3:=by omega
 all_goals decide
theorem amM(h:n≤3):2^n≤8:=by
 obtain rfl|rfl|rfl|rfl:n=0∨n=1∨n=2∨n=3:=by omega
 all_goals decide
theorem aqa(h:n≤255):Value.int .u8 (IntKind.u8.wrap (n:Int))= .int .u8 (n:Int):=by
 rw[sB .u8 rfl _ (by omega) (by simp[IntKind.bits];omega)]
def fq(n:Nat):List Int:=Az (cb (2^n))
theorem aaS(h:n≤8):∀m∈cb n,0≤m∧m <16:=fun m hm=>by have:=nD hm;omega
theorem aN8{v:Value}{L:Cells}{IS:Int}(ho:aw v 1 105 uV xs L)(hN:xs.length≤12)(hM:∀m∈xs,0≤m∧m <16):dE zT 113 [v,zI 0,zI (xs.length:Int),zI IS,.func (.func 90) ⟨[]⟩ ⟨[]⟩] ro L (fun r Y=>BE v xs Y):=by
 refine zC [.l L]<|zD 9<|dB [1,1,0,0] [] (fun(zz:Nat)=>[(0,v),(1,zI 0),(2,zI (xs.length:Int)),(3,zI IS),(4,.func (.func 90) ⟨[]⟩ ⟨[]⟩),(10,.bool true),(11,.bool true)]) (fun zz=>[.l L]) (fun zz=>True) (fun zz=>zz) 0 trivial [0] ?_
 rintro z hI K1 bF rest
 refine zD 5<|ja ((xs.length:Int)-0) (by omega)<|zD 8<|zJ 25 (((xs.length:Int)-0)≤12) (fun h1=>?_) fun h1=>?_
 ·
  refine zD 7<|jc (vs:=[v,zI 0,zI (xs.length:Int),.func (.func 90) ⟨[]⟩ ⟨[]⟩]) [0] (aOa ho hN hM) ?_
  rintro amn Y30 ⟨asH,Vu,uj⟩
  refine zD 2<|zR (.tuple ⟨[]⟩) [] [0] Y30 ⟨_,Vu,uj⟩
 exfalso;omega
theorem aDL{v:Value}{L:Cells}(ho:aw v 1 105 uV xs L)(hN:xs.length≤12)(hM:∀m∈xs,0≤m∧m <16):dE zT 89 [v,.func (.func 90) ⟨[]⟩ ⟨[]⟩] ro L (fun r Y=>BE v xs Y):=by
 refine zC [.l L]<|zD 3<|CG ho<|zD 6<|je (zU (xs.length:Int)) (Xf (by omega))<|jp (vs:=[zU (xs.length:Int)]) [] [] (fun aG hs hZ=>(ayt (by omega)))<|zD 1<|jc (vs:=[v,zI 0,zI (xs.length:Int),zI (abn xs.length),.func (.func 90) ⟨[]⟩ ⟨[]⟩]) [0] (aN8 ho hN hM) ?_
 rintro atP Y13 ⟨aAF,RA,NH⟩
 refine zD 1<|zR (.tuple ⟨[]⟩) [] [0] Y13 ⟨_,RA,NH⟩
theorem ar7{f:Nat}{rows:List bG}(hF:nY ro f K rows)(hV:eG K)(hn3:K.facts.length≤3):dE zT 61 [zP f] ro [] (fun r Y=>∃L,aw r 1 105 uV (fq K.facts.length) L∧Y=L):=by
 have hp8:=amM hn3
 refine zE<|zD 12<|jp (vs:=[zP f]) [] [] (fun aG hs hZ=>yj hV (hF.up hs))<|je (.int .u8 ((2^K.facts.length:Nat):Int)) (congrArg (Value.int .u8) (apC hn3))<|zD 3<|n8<|dB [1,1,0,1,0,0] [] (fun(zz:Nat×Value×Cells)=>[(2,zS),(3,zz.2.1),(7,.int .u8 ((2^K.facts.length:Nat):Int)),(8,.int .u8 (zz.1:Int))]) (fun zz=>[.l zz.2.2]) (fun zz=>zz.1≤2^K.facts.length∧aw zz.2.1 1 105 uV (cb zz.1) zz.2.2) (fun zz=>2^K.facts.length-zz.1) (⟨0,zS,[]⟩) ⟨Nat.zero_le _,aw.nil _ _ _⟩ [0] ?_
 rintro⟨k,v,L⟩ hI K1 bF rest
 dsimp only at hI
 have hrl:=fZ k
 refine zD 5<|zJ 9 ((k:Int) <((2^K.facts.length:Nat):Int)) (fun h1=>?_) fun h1=>?_
 ·
  refine zD 12<|jn fun vy=>iE (sz:=1) (ps:=(cb k)) (qs:=[(k:Int)]) (enc:=uV) (w:= .slice (some ⟨vy,0,none⟩) 1 1) [1] [0] [(vy,.cells ⟨([(k:Int)].map uV).flatten⟩ 105 (0,0))] (hI.2) (fun s _ hZ=>bN [(k:Int)] (hZ _ (.head _)) (by intro p hp;rfl)) (fun p _=>ai rfl) (by simp<;>omega) (fun v14 L14 oX=>?_)
  obtain⟨B0,Au,td⟩:=oX.form
  subst td
  refine zD 3<|je (.int .u8 ((k:Int)+1)) (aqa (n:=k+1) (by omega))<|zD 2<|bE bF (⟨k+1,(.slice B0 (((cb k)++[(k:Int)])).length Au),L14⟩) ⟨by dsimp only;omega,by dsimp only;rw[qZ];exact oX⟩ (by dsimp only;omega) [0] (Sub.refl _)
 refine zD 5<|jc (vs:=[v,.func (.func 90) ⟨[]⟩ ⟨[]⟩]) [0] (aDL hI.2 (by rw[fZ];omega) (aaS (by omega))) ?_
 rintro aMr Y17 ⟨aKS,awn,uk⟩
 refine zD 7<|zR (v) [] [0] Y17 ⟨_,by rw[fq,show 2^K.facts.length=k by omega,←awn];exact uk,rfl⟩
def EO(K:aB)(rows:List bG)(p:Nat→Int):Nat→Bool
 |0=>false
 |i+1=>EO K rows p i||cB K.gone K.new K.af (cu K ((rows[i]?).getD ⟨fun _ _=>false⟩) i p)
theorem OG{rows:List bG}{p:Nat→Int}{r:bG}(h:rows[i]?=some r):EO K rows p (i+1)=(EO K rows p i||cB K.gone K.new K.af (cu K r i p)):=by rw[EO,h];rfl
theorem apB{rows:List bG}{p:Nat→Int}(h:EO K rows p i=true)(hn:i≤n):EO K rows p n=true:=by
 induction n with
 |zero=>rwa[show i=0 by omega] at h
 |succ n ih=>
  by_cases e:i=n+1
  ·rwa[e] at h
  rw[EO,ih (by omega),Bool.true_or]
def Iq(K:aB)(rows:List bG)(on:Int):Bool:=(aJ K on).any fun p=>EO K rows p rows.length
theorem aks{f:α→Bool}{l:List α}{x:α}(h:l[k]?=some x) (h1:(l.take k).any f=false) (h2:f x=false):(l.take (k+1)).any f=false:=by
 rw[iA h,List.any_append,h1,List.any_cons,h2];rfl
theorem aHE{f:Nat}{rows:List bG}{on:Int}(hF:nY ro f K rows)(hV:eG K)(hR:rows.length≤1000):dE zT 62 [zP f,.int .u8 on] ro [] (fun r Y=>r= .bool (Iq K rows on)∧Y=[]):=by
 obtain⟨c0,c1,c2,vc,vh,vr,vb,va,vf,vt,hv,hf,qo,nJ,hr,ED,JC,Le,bW⟩:=id hF
 obtain⟨hc,hh,dg⟩:=id qo
 obtain⟨eg,AJ,AI,dV,rfl,DC,yU,yT⟩:=hc
 obtain⟨dI,u4,u3,du,rfl,xw,qR,qQ⟩:=hh
 obtain⟨kU,IP,IN,kT,rfl,OX,Gq,Gp⟩:=hr
 obtain⟨lN,MW,MT,kX,rfl,MU,Gs,Gr⟩:=ED
 obtain⟨lO,MZ,MX,kY,rfl,MY,Gu,Gt⟩:=JC
 obtain⟨mj,UF,UD,lv,rfl,UE,MP,MO⟩:=Le
 obtain⟨nE,Em,Ek,mV,rfl,Qf,MN,MM⟩:=bW
 have Ty:=hV.rules.1
 have CQ:=hV.before.1
 have Fc:=hV.after.1
 have hnf:=hV.facts.1
 refine anO ar [] [] aW<|zD 2<|jn fun b2=>zD 5<|jn fun b5=>jd 9 [0,1]<|jc (vs:=[zP f,.int .u8 on]) [] (KU (on:=on) hF hV) ?_
 rintro _ _ ⟨q1,q2,q3,q4,rfl,rfl⟩
 refine jg 0 [.b q1 (.cells ⟨[zP f]⟩ 100 (0,0)),.b q2 (.cells ⟨[.func (.func 116) ⟨[]⟩ ⟨[zP q1,zP q4]⟩]⟩ 218 (0,0)),.b q3 (.cells ⟨[.bool (dc K on 0 0),.bool (dc K on 0 1),.bool (dc K on 0 2),.bool (dc K on 0 3),.bool (dc K on 1 0),.bool (dc K on 1 1),.bool (dc K on 1 2),.bool (dc K on 1 3),.bool (dc K on 2 0),.bool (dc K on 2 1),.bool (dc K on 2 2),.bool (dc K on 2 3),.bool (dc K on 3 0),.bool (dc K on 3 1),.bool (dc K on 3 2),.bool (dc K on 3 3)]⟩ 153 (0,0)),.b q4 (.cells ⟨[.int .u8 on]⟩ 105 (0,0))]<|jf [0,1,2,3,5] ((q1,.cells ⟨[zP f]⟩ 100 (0,0))::((q2,.cells ⟨[.func (.func 116) ⟨[]⟩ ⟨[zP q1,zP q4]⟩]⟩ 218 (0,0))::((q3,.cells ⟨[.bool (dc K on 0 0),.bool (dc K on 0 1),.bool (dc K on 0 2),.bool (dc K on 0 3),.bool (dc K on 1 0),.bool (dc K on 1 1),.bool (dc K on 1 2),.bool (dc K on 1 3),.bool (dc K on 2 0),.bool (dc K on 2 1),.bool (dc K on 2 2),.bool (dc K on 2 3),.bool (dc K on 3 0),.bool (dc K on 3 1),.bool (dc K on 3 2),.bool (dc K on 3 3)]⟩ 153 (0,0))::((q4,.cells ⟨[.int .u8 on]⟩ 105 (0,0))::[(b2,.cells ⟨[zP f]⟩ 100 (0,0))])))) fun yS cg iK=>zD 2<|jrf [] (YA (on:=on) (hF.up cg) hV (iK _ (.head _)) (iK _ (.tail _ (.head _))) (iK _ (.tail _ (.tail _ (.head _)))) (iK _ (.tail _ (.tail _ (.tail _ (.head _)))))) (by rintro _ _ _ _ ⟨_,_,rfl,_⟩;rfl) (fun(zz:Bool)=>[.b b5 (.cells ⟨[.bool zz]⟩ 4 (0,0))]) (fun kk=>(fun(zz:Bool)=>zz=false∧(((aJ K on).take kk).any fun p=>EO K rows p rows.length)=false)) (fun jump=>(fun(zz:Bool)=>jump= .exit 0∧zz=true∧Iq K rows on=true)) false ⟨rfl,rfl⟩ [0] ?_ ?_ ?_
 ·
  rintro bl4 bd4 kk4 vs4 LL4 bo ro4 hk4 axd hI ko
  obtain⟨p4,hp4,rfl,rfl⟩:=axd
  have hpb:=(j6 hV on).2 p4 (zL hp4)
  refine zD 1<|jn fun b6=>jd 2 [0]<|aEf<|zD 3<|jl (b:=b2) (off:=0) (m:=1) (vs:=[zP f]) 0 ⟨_,_,_,.inl (ko _ _ (iK _ (.tail _ (.tail _ (.tail _ (.tail _ (.head _))))))),rfl⟩<|zD 2<|jl (b:=f) (off:=0) (m:=13) (vs:=[c0,c1,c2,.slice eg K.cs.length dV,.slice dI hv.length du,.slice kU K.rules.length kT,.slice lN K.before.length kX,.slice lO K.after.length kY,zI K.gone,zI K.new,zI K.af,.slice mj K.facts.length lv,.slice nE rows.length mV]) 12 ⟨_,_,_,.inl (ko _ _ (cg _ _ hf)),rfl⟩<|zD 4<|aOx [1] [1,0,1,1,0,1,0,3,0,1,0,0] [] (fun(zz:Nat×Bool)=>[(2,zP b2),(4,.bool false),(5,zP b5),(6,zP b6),(16,zI (rows.length:Int)),(17,zI (zz.1:Int))]) (fun zz=>[.b b5 (.cells ⟨[.bool zz.2]⟩ 4 (0,0)),.b b6 (.cells ⟨[zI (p4 0),zI (p4 1),zI (p4 2),zI (p4 3)]⟩ 126 (0,0))]) (fun zz=>zz.1≤rows.length∧zz.2=false∧EO K rows p4 zz.1=false) (fun zz=>rows.length-zz.1) (⟨0,bo⟩) ⟨Nat.zero_le _,hI.1,rfl⟩ [2,0,1] ?_
  rintro⟨i,bo⟩ hJ K1 bF rest
  dsimp only at hJ
  refine zD 5<|zJ 18 ((i:Int) <(rows.length:Int)) (fun h5=>?_) fun h5=>?_
  ·
   refine zD 5 ?_
   obtain⟨r_,CM⟩:∃r_,rows[i]?=some r_:=⟨_,List.getElem?_eq_getElem (by omega)⟩
   refine zD 6<|jl (b:=b2) (off:=0) (m:=1) (vs:=[zP f]) 0 ⟨_,_,_,.inl (ko _ _ (iK _ (.tail _ (.tail _ (.tail _ (.tail _ (.head _))))))),rfl⟩<|jl (b:=b2) (off:=0) (m:=1) (vs:=[zP f]) 0 ⟨_,_,_,.inl (ko _ _ (iK _ (.tail _ (.tail _ (.tail _ (.tail _ (.head _))))))),rfl⟩<|jd 2 [1]<|jp (vs:=[zP f,zI (i:Int),.agg ⟨[zI (p4 0),zI (p4 1),zI (p4 2),zI (p4 3)]⟩]) [] [] (fun aG hs hZ=>aq8 (hF.up (Sub.trans (cg.trans ko) hs)) hV CM hpb)<|jp (vs:=[zP f,.agg ⟨[zI ((cu K r_ i p4).past),zI ((cu K r_ i p4).w0),zI ((cu K r_ i p4).w1),zI ((cu K r_ i p4).w2),zI ((cu K r_ i p4).w3),zI ((cu K r_ i p4).gone),zI ((cu K r_ i p4).new),zI ((cu K r_ i p4).af)]⟩]) [] [] (fun aG hs hZ=>agI (x:=(cu K r_ i p4)) (hs _ _ (ko _ _ (cg _ _ hf))))<|aS 6 fun yD yK ya=>jd 1 [0]<|fU ya<|jd 5 [0]<|js 26 (cB K.gone K.new K.af (cu K r_ i p4)) (fun h7=>?_) (fun h7=>?_)
   ·
    refine zD 2<|jys qy0 (Sub.refl _) (.exit 0) (cB K.gone K.new K.af (cu K r_ i p4)) ⟨rfl,by assumption,List.any_eq_true.2 ⟨p4,zL hp4,apB (i:=i+1) (by rw[OG CM];simp[*]) (by omega)⟩⟩ [2,0]
   refine zD 3<|ja ((i:Int)+1) (by omega)<|zD 2<|bE bF (⟨i+1,(cB K.gone K.new K.af (cu K r_ i p4))⟩) ⟨by dsimp only;omega,by assumption,by dsimp only;rw[OG CM,hJ.2.2,Bool.false_or];assumption⟩ (by dsimp only;omega) [0,1,2] (Sub.refl _)
  refine zD 2<|jyn qy0 (Sub.refl _) bo ⟨hJ.2.1,aks hp4 hI.2 (by have:=hJ.2.2;rwa[show i=rows.length by omega] at this)⟩ [2,0]
 ·
  rintro bd4 bo Z4 hI hZ4
  subst hZ4
  refine jd 6 [2]<|jrM qm0.a.m (.bool bo) [0] [] [] [] cg ⟨by have:=hI.2;rw[List.take_of_length_le (Nat.le_refl _)] at this;rw[hI.1,Iq,this],rfl⟩
 rintro bd4 bo Z4 jump hS hZ4
 obtain⟨rfl,hS⟩:=hS
 subst hZ4
 refine jd 6 [2]<|jrM qm0.a.m (.bool bo) [0] [] [] [] cg ⟨by rw[hS.1,hS.2],rfl⟩
def iAn(k:IntKind)(a b:Int):Int:=k.wrap (BitVec.ofInt k.bits a&&& ~~~ BitVec.ofInt k.bits b).toNat
theorem auZ:fq 0=[0]:=by kernel_rfl
theorem auY:fq 1=[0,1]:=by kernel_rfl
theorem auX:fq 2=[0,1,2,3]:=by kernel_rfl
theorem auW:fq 3=[0,1,2,4,3,5,6,7]:=by kernel_rfl
theorem Q0(h:n≤3):(fq n).length≤8∧∀m∈fq n,0≤m∧m <16:=by
 obtain rfl|rfl|rfl|rfl:n=0∨n=1∨n=2∨n=3:=by omega
 ·rw[auZ];decide
 ·rw[auY];decide
 ·rw[auX];decide
 rw[auW];decide
def pY(K:aB)(rows:List bG):Option Int:=(fq K.facts.length).find? fun m=>Iq K rows (iAn .u8 (aF K) m)
theorem Fo{p:α→Bool}{l:List α}{x:α}(hx:l[k]?=some x):(l.drop k).find? p=bif p x then some x else (l.drop (k+1)).find? p:=by rw[eB hx,List.find?_cons];cases p x<;>rfl
theorem SB{p:α→Bool}{l:List α}(hx:¬k <l.length):(l.drop k).find? p=none:=by rw[ep hx];rfl
theorem avb{rows:List bG}(hK:fF ro l K)(hV:eG K)(hR:rows.length≤2)(hB:jk ro l K rows)(hn3:K.facts.length≤3):dE zT 22 [.agg ⟨l⟩] ro [] (fun r Y=>∃v e,r= .tuple ⟨[v,zI e]⟩∧((∃m,pY K rows=some m∧aw v 1 3 cm (iD m 4) Y∧e=0)∨(pY K rows=none∧v= zS∧e=11∧Y=[]))):=by
 obtain⟨v0,v1,v3,v4,v5,v6,v7,vb,fa,fc,hv,rfl,_⟩:=hK
 have NK:=Q0 hn3
 have TA:=NK.1
 refine zE<|zD 2<|jn fun b1=>jd 6 [0]<|jc (vs:=[.agg ⟨[v0,v1,.slice fa 0 fc,v3,v4,v5,v6,v7,zI K.gone,zI K.new,zI K.af,vb]⟩]) [] (hB _ (Sub.refl _)) ?_
 rintro _ Z3 ⟨f10,rfl,aiK⟩
 refine zD 5<|jf [0] Z3 (fun yS cg iK=>?_)
 have Ba:=aiK _ cg iK
 refine zD 13<|jc (vs:=[zP f10]) [] (ar7 Ba hV hn3) ?_
 rintro v17 L17 ⟨_,uk,rfl⟩
 refine CG uk<|zD 3<|dB [1,1,1,0,1,0,0] [] (fun(zz:Nat)=>[(4,zP f10),(17,v17),(18,zI ((fq K.facts.length).length:Int)),(19,zI (zz:Int))]) (fun zz=>[.l L17,.b b1 (.cells ⟨[v0,v1,.slice fa 0 fc,v3,v4,v5,v6,v7,zI K.gone,zI K.new,zI K.af,vb]⟩ 40 (0,0))]) (fun zz=>zz≤(fq K.facts.length).length∧pY K rows=((fq K.facts.length).drop zz).find? (fun m=>Iq K rows (iAn .u8 (aF K) m))) (fun zz=>(fq K.facts.length).length-zz) 0 ⟨Nat.zero_le _,rfl⟩ [0,1] ?_
 rintro k hI K1 bF rest
 refine zD 5<|zJ 20 ((k:Int) <((fq K.facts.length).length:Int)) (fun h4=>?_) fun h4=>?_
 ·
  refine zD 6 ?_
  obtain⟨vo,mG⟩:=zG ((fq K.facts.length)) k (by first|omega| (simp only[List.length_set,zM];omega))
  refine A0 1 uk mG fun b21 axN=>kJ 0 [0] L17 (fun s _ hZ=>bn uk axN hZ mG)<|zD 6<|jp (vs:=[zP f10]) [] [] (fun aG hs hZ=>yj hV (Ba.up hs))<|zD 1<|je (.int .u8 (iAn .u8 (aF K) vo)) rfl<|jc (vs:=[zP f10,.int .u8 (iAn .u8 (aF K) vo)]) [] (aHE Ba hV (by omega)) ?_
  rintro _ _ ⟨rfl,rfl⟩
  refine jg 0 []<|zD 1<|js 28 (Iq K rows (iAn .u8 (aF K) vo)) (fun h5=>?_) (fun h5=>?_)
  ·
   refine zD 4<|jc (vs:=[.int .u8 vo]) [] (Zw) ?_
   rintro v30 L30 ⟨_,uj,rfl⟩
   refine zD 4<|aL q0.a (.tuple ⟨[v30,zI 0]⟩) [] [0] L30 cg ⟨_,_,rfl,rfl,_,_,rfl,.inl ⟨_,by rw[hI.2,Fo mG];simp only[*,cond_true],uj,rfl⟩⟩
  refine zD 3<|ja ((k:Int)+1) (by omega)<|zD 2<|bE bF (k+1) ⟨by omega,by rw[hI.2,Fo mG];simp only[*,cond_false]⟩ (by omega) [0,1] (Sub.refl _)
 refine zD 8<|aL q0.a (.tuple ⟨[zS,zI 11]⟩) [] [] [] cg ⟨_,_,rfl,rfl,_,_,rfl,.inr ⟨by rw[hI.2,SB (by omega)],rfl,rfl,rfl⟩⟩
theorem agH{f:Nat}{rows:List bG}(hF:nY ro f K rows)(hV:eG K)(hR:rows.length≤2):BU zT 52 [zP f] ro [] (fun r Y=>∃zs v e,r= .tuple ⟨[v,zI e]⟩∧zs.Perm (cY K (aF K) (cB K.gone K.new K.af) rows)∧aw v 8 128 cQ zs Y∧((zs=[]∧e=9)∨(zs≠[]∧e=0))):=by
 refine G3 ar [] [] aW fun fr=>zD 9<|jp (vs:=[zP f]) [] [] (fun aG hs hZ=>yj hV (hF.up hs))<|Tq (vs:=[zP f,.int .u8 (aF K)]) [] (fun _ _ h=>h) (Yx hV hF hR) ?_
 rintro v8 Y8 ⟨zs,hz,ho8⟩
 refine zD 6<|CG ho8<|zD 2<|zJ 11 ((zs.length:Int)=0) (fun h1=>?_) fun h1=>?_
 ·
  refine zD 7<|Tp qC (.tuple ⟨[zS,zI 9]⟩) [1] [] (Sub.refl _) ⟨zs,_,_,rfl,hz,by rw[show zs=[] from List.eq_nil_of_length_eq_zero (by omega)];exact aw.nil _ _ _,.inl ⟨List.eq_nil_of_length_eq_zero (by omega),rfl⟩⟩
 refine zD 9<|Tp qC (.tuple ⟨[v8,zI 0]⟩) [0,1] Y8 (Sub.refl _) ⟨zs,_,_,rfl,hz,ho8,.inr ⟨fun e=>by subst e;simp at*,rfl⟩⟩
theorem agG{rows:List bG}(hK:fF ro l K)(hV:eG K)(hR:rows.length≤2)(hB:jk ro l K rows):azg zT 55 [.agg ⟨l⟩] ro [] (fun r aG Y=>∃f zs v e,r= .tuple ⟨[pV f,v,zI e]⟩∧nY aG f K rows∧zs.Perm (cY K (aF K) (cB K.gone K.new K.af) rows)∧aw v 8 128 cQ zs Y∧((zs=[]∧e=9)∨(zs≠[]∧e=0))):=by
 obtain⟨v0,v1,v3,v4,v5,v6,v7,vb,fa,fc,hv,rfl,_⟩:=hK
 refine aEd (hm:=ar) [] [] aW fun fr=>zD 2<|jn fun b1=>jd 7 [0]<|jc (vs:=[.agg ⟨[v0,v1,.slice fa 0 fc,v3,v4,v5,v6,v7,zI K.gone,zI K.new,zI K.af,vb]⟩]) [] (hB _ (Sub.refl _)) ?_
 rintro _ Z3 ⟨f10,rfl,aiK⟩
 refine zD 5<|jf [0] Z3 (fun yS cg iK=>?_)
 have Ba:=aiK _ cg iK
 refine zD 12<|Tq (vs:=[zP f10]) [] (fun _ _ h=>h) (agH Ba hV hR) ?_
 rintro _ Y18 ⟨zs,v18,e18,rfl,hz,abK,he⟩
 refine zD 16<|aOq qC.a (.tuple ⟨[zP f10,v18,zI e18]⟩) [0,2] Y18 cg ⟨f10,zs,v18,e18,rfl,Ba,hz,abK,he⟩
theorem anG{x:aj}:dr zT 84 [.agg ⟨[zI x.past,zI x.w0,zI x.w1,zI x.w2,zI x.w3,zI x.gone,zI x.new,zI x.af]⟩] ro (zI x.af):=by
 refine zE<|zD 2<|jn fun b1=>jd 9 [0]<|zX (zI x.af) ⟨rfl,rfl⟩
theorem agz{rows:List bG}(hK:fF ro l K)(hV:eG K)(hR:rows.length≤2)(hB:jk ro l K rows):BU zT 59 [.agg ⟨l⟩,.func (.func 84) ⟨[]⟩ ⟨[]⟩] ro [] (fun r Y=>∃zs a b e,zs.Perm (cY K (aF K) (cB K.gone K.new K.af) rows)∧Y=[]∧r= .tuple ⟨[.agg ⟨[zI a,zI b]⟩,zI e]⟩∧((zs=[]∧a=0∧b=0∧e=9)∨(zs≠[]∧a=u6 (zs.map fun x=>x.af)∧b=Ct (zs.map fun x=>x.af)∧e=0))):=by
 obtain⟨v0,v1,v3,v4,v5,v6,v7,vb,fa,fc,hv,rfl,_⟩:=id hK
 refine G3 ar [] [] aW fun fr=>zD 2<|jn fun b2=>jn fun b4=>jd 5 [1]<|avE (vs:=[.agg ⟨[v0,v1,.slice fa 0 fc,v3,v4,v5,v6,v7,zI K.gone,zI K.new,zI K.af,vb]⟩]) [] (fun _ _ h=>h) (agG hK hV hR hB) ?_
 rintro _ aG Y14 cg ⟨f14,zs,v14,Oe,rfl,Ba,hz,Vw,he⟩
 have Vr:∀x∈zs,(-4≤x.gone∧x.gone≤4)∧(-4≤x.new∧x.new≤4)∧(0≤x.af∧x.af≤4):=fun x hx=>by obtain⟨i,r,p,_,_,rfl,_⟩:=gL (hz.mem_iff.1 hx);exact pQ hV r i p
 have hzl:zs.length≤1250:=by rw[hz.length_eq];exact qH hV _ _ hR
 refine zD 7<|jf [0] Y14 (fun ro4 qj hk3=>?_)
 have hZ1:=Vw.jW hk3
 obtain⟨xX,UI,UG,u5,rfl,UH,M1,M0⟩:=hZ1
 refine zD 7<|js 19 (!decide (Oe=0)) (fun h5=>?_) (fun h5=>?_)
 ·
  replace h5:=of_decide_eq_false (by simpa using h5)
  have uO:zs=[]∧Oe=9:=by rcases he with h| ⟨_,h⟩;exact h;omega
  refine jd 9 [0]<|avC qC.a.a (.tuple ⟨[.agg ⟨[zI 0,zI 0]⟩,zI Oe]⟩) [0] [2] [] (cg.trans qj) ⟨zs,_,_,_,hz,rfl,rfl,.inl ⟨uO.1,rfl,rfl,uO.2⟩⟩
 replace h5:=of_decide_eq_true (by simpa using h5)
 have uO:zs≠[]∧Oe=0:=by rcases he with ⟨_,h⟩|h;omega;exact h
 have hzp:0 <zs.length:=List.length_pos_iff.2 uO.1
 refine zD 14<|n8<|dB [1,1,1,1,0,1,0,0] [] (fun(zz:Nat×Value×Cells)=>[(1,.func (.func 84) ⟨[]⟩ ⟨[]⟩),(4,zP b4),(5,zI 0),(9,zz.2.1),(22,.slice xX zs.length u5),(23,zI (zs.length:Int)),(24,zI (zz.1:Int))]) (fun zz=>[.l zz.2.2,.b b4 (.cells ⟨[zI 0,zI 0]⟩ 65 (0,0)),.b b2 (.cells ⟨[v0,v1,.slice fa 0 fc,v3,v4,v5,v6,v7,zI K.gone,zI K.new,zI K.af,vb]⟩ 40 (0,0)),.l fr]) (fun zz=>zz.1≤zs.length∧aw zz.2.1 1 3 cm ((zs.take zz.1).map fun x=>x.af) zz.2.2) (fun zz=>zs.length-zz.1) (⟨0,zS,[]⟩) ⟨by dsimp only;omega,aw.nil _ _ _⟩ (zN 0 4) ?_
 rintro⟨k,vS,LS⟩ hI K1 bF rest
 dsimp only at hI
 refine zD 5<|zJ 25 ((k:Int) <(zs.length:Int)) (fun h6=>?_) fun h6=>?_
 ·
  refine zD 6 ?_
  obtain⟨Mn,A2⟩:=zG zs k
  refine gY u5 8 M1 A2<|jl 0 (M0 _ _ A2)<|jn fun OC=>jd 6 [0,0]<|jp (vs:=[.agg ⟨[zI Mn.past,zI Mn.w0,zI Mn.w1,zI Mn.w2,zI Mn.w3,zI Mn.gone,zI Mn.new,zI Mn.af]⟩]) [] [] (fun aG hs hZ=>(anG (x:=Mn)))<|jn fun b32=>iE (sz:=1) (ps:=((zs.take k).map fun x=>x.af)) (qs:=[Mn.af]) (enc:=cm) (w:= .slice (some ⟨b32,0,none⟩) 1 1) [2] [0] [(b32,.cells ⟨([Mn.af].map cm).flatten⟩ 3 (0,0))] (hI.2) (fun s _ hZ=>bN [Mn.af] (hZ _ (.head _)) (by intro p hp;rfl)) (fun p _=>ai rfl) (by simp only[List.length_map,List.length_take,List.length_cons,List.length_nil];omega) (fun v33 L33 Hn=>?_)
  obtain⟨as9,asZ,axj⟩:=Hn.form
  subst axj
  refine zD 3<|ja ((k:Int)+1) (by omega)<|zD 2<|bE bF (⟨k+1,(.slice as9 ((((zs.take k).map fun x=>x.af)++[Mn.af])).length asZ),L33⟩) ⟨by dsimp only;omega,by rw[iA A2,List.map_append];exact Hn⟩ (by dsimp only;omega) [0,3,4,5] (Sub.refl _)
 refine zD 5<|jp (vs:=[vS]) [0] LS (fun aG hs hZ=>aq5 (hI.2.jW hZ) ⟨by simp only[List.length_map,List.length_take];omega,by simp only[List.length_map,List.length_take];omega⟩) ?_
 refine jd 4 [1]<|avC qC.a.a (.tuple ⟨[.agg ⟨[zI (u6 ((zs.take k).map fun x=>x.af)),zI (Ct ((zs.take k).map fun x=>x.af))]⟩,zI 0]⟩) [1] [3] [] (cg.trans qj) ⟨zs,_,_,_,hz,rfl,rfl,.inr ⟨uO.1,by rw[show k=zs.length by omega,List.take_length],by rw[show k=zs.length by omega,List.take_length],rfl⟩⟩
theorem avr{rows:List bG}(hK:fF ro l K)(hV:eG K)(hR:rows.length≤2)(hB:jk ro l K rows):BU zT 47 [.agg ⟨l⟩] ro [] (fun r Y=>∃zs a b e,zs.Perm (cY K (aF K) (cB K.gone K.new K.af) rows)∧Y=[]∧r= .tuple ⟨[.agg ⟨[zI a,zI b]⟩,zI e]⟩∧((zs=[]∧a=0∧b=0∧e=9)∨(zs≠[]∧a=u6 (zs.map fun x=>x.af)∧b=Ct (zs.map fun x=>x.af)∧e=0))):=by
 obtain⟨v0,v1,v3,v4,v5,v6,v7,vb,fa,fc,hv,rfl,_⟩:=id hK
 refine G3 ar [] [] aW fun fr=>zD 2<|jn fun b1=>jn fun b2=>jd 5 [1]<|Tq (vs:=[.agg ⟨[v0,v1,.slice fa 0 fc,v3,v4,v5,v6,v7,zI K.gone,zI K.new,zI K.af,vb]⟩,.func (.func 84) ⟨[]⟩ ⟨[]⟩]) [] (fun _ _ h=>h) (agz hK hV hR hB) ?_
 rintro _ _ ⟨zs,a5,c5,e5,hz,rfl,rfl,he⟩
 refine jg 0 []<|jd 6 [0]<|avC qC (.tuple ⟨[.agg ⟨[zI a5,zI c5]⟩,zI e5]⟩) [0] [2] [] (Sub.refl _) ⟨zs,_,_,_,hz,rfl,rfl,he⟩
theorem avq{a b:Int}:dr zT 83 [zI a,zI b] ro (.bool (decide (a=b))):=by
 refine zE<|zD 12<|zX (.bool (decide (a=b))) ⟨rfl,rfl⟩
theorem aHY{a b:Int}{s:Bool}:dr zT 17 [zI a,zI b,.bool s] ro (.agg ⟨[zI a,zI b,.bool s]⟩):=by
 refine zE<|zD 2<|jn fun b6=>jd 10 [0]<|zR (.agg ⟨[zI a,zI b,.bool s]⟩) [0] [] [] ⟨rfl,rfl⟩
theorem cAt{w:ByteArray}{a b c:Int}:dr zT 81 [.string w,zI a,zI b,zI c] ro (.agg ⟨[.string w,zI a,zI b,zI c,.bool false]⟩):=by
 refine zE<|zD 2<|jn fun b8=>jd 11 [0]<|zR (.agg ⟨[.string w,zI a,zI b,zI c,.bool false]⟩) [0] [] [] ⟨rfl,rfl⟩
theorem aHZ{w:ByteArray}{a:Int}:dr zT 80 [.string w,zI a] ro (.agg ⟨[.string w,zI (-1),zI a,(zS)]⟩):=by
 refine zE<|zD 2<|jn fun b4=>jd 9 [0]<|zR (.agg ⟨[.string w,zI (-1),zI a,zS]⟩) [0] [] [] ⟨rfl,rfl⟩
theorem cIs{w:ByteArray}{a:Int}{va:Option Addr}{vn vc:Nat}:dr zT 79 [.string w,zI a,(.slice va vn vc)] ro (.agg ⟨[.string w,zI a,zI (-1),(.slice va vn vc)]⟩):=by
 refine zE<|zD 2<|jn fun b6=>jd 10 [0]<|zR (.agg ⟨[.string w,zI a,zI (-1),(.slice va vn vc)]⟩) [0] [] [] ⟨rfl,rfl⟩
def Wz:List bO:=[⟨(bs [102,111,111,100]),-1⟩,⟨(bs [98,114,101,97,100]),0⟩,⟨(bs [99,108,111,116,104]),-1⟩,⟨(bs [104,97,116,115]),2⟩]
def De:List cy:=[⟨(bs [98,97,107,101,114]),1,-1,[]⟩,⟨(bs [98,111,110,110,101,116,115]),-1,3,[]⟩,⟨(bs [99,111,110,102,101,99,116,105,111,110,101,114]),0,-1,[0]⟩,⟨(bs [104,97,116,116,101,114]),3,-1,[]⟩,⟨(bs [109,101,114,99,101,114]),2,-1,[3]⟩,⟨(bs [109,105,108,108,105,110,101,114]),-1,1,[]⟩]
def Ol:List aA:=[⟨(bs [115,109,105,116,104]),0,1,0,false⟩,⟨(bs [97,110,110,97]),0,2,3,false⟩,⟨(bs [115,109,121,116,104]),1,1,2,false⟩]
def Om:List aA:=[⟨(bs [115,109,121,116,104]),0,2,0,false⟩,⟨(bs [115,109,105,116,104]),1,1,-1,false⟩,⟨(bs [98,101,110]),0,1,4,false⟩]
abbrev aV(n:Int):aB where
 ways:=[[⟨1,0,0,0,0,0,0⟩,⟨2,0,0,0,0,0,0⟩]]
 cs:=Wz
 hd:=De
 rules:=[⟨(bs [121]),(bs [105])⟩]
 before:=Ol
 after:=Om
 gone:=1
 new:=1
 af:=n
 facts:=[]
 str:=[[⟨1,0⟩,⟨2,0⟩],[⟨1,0⟩]]
abbrev DZ(nQ Jb b9 Ab qX qW BT:Nat)(n:Int):List Value:=[.slice (some ⟨nQ,0,none⟩) 2 2,.slice (some ⟨Jb,0,none⟩) 1 1,zS,.slice (some ⟨b9,0,none⟩) 4 4,.slice (some ⟨Ab,0,none⟩) 6 6,.slice (some ⟨qX,0,none⟩) 1 1,.slice (some ⟨qW,0,none⟩) 3 3,.slice (some ⟨BT,0,none⟩) 3 3,zI 1,zI 1,zI n,zS]
abbrev Ic(nQ OA Fs Jb b29 b9 Ab wZ IB qX qW BT:Nat):Cells:=[(nQ,.cells ⟨[.slice (some ⟨OA,0,none⟩) 2 2,.slice (some ⟨Fs,0,none⟩) 1 1]⟩ 80 (0,0)),(OA,.cells ⟨[zI 1,zI 0,zI 2,zI 0]⟩ 79 (0,0)),(Fs,.cells ⟨[zI 1,zI 0]⟩ 79 (0,0)),(Jb,.cells ⟨[.slice (some ⟨b29,0,none⟩) 2 2]⟩ 87 (0,0)),(b29,.cells ⟨[zI 1,zI 0,zI 0,zI 0,zI 0,zI 0,zI 0,zI 2,zI 0,zI 0,zI 0,zI 0,zI 0,zI 0]⟩ 83 (0,0)),(b9,.cells ⟨[.string (bs [102,111,111,100]),zI (-1),.string (bs [98,114,101,97,100]),zI 0,.string (bs [99,108,111,116,104]),zI (-1),.string (bs [104,97,116,115]),zI 2]⟩ 142 (0,0)),(Ab,.cells ⟨[.string (bs [98,97,107,101,114]),zI 1,zI (-1),zS,.string (bs [98,111,110,110,101,116,115]),zI (-1),zI 3,zS,.string (bs [99,111,110,102,101,99,116,105,111,110,101,114]),zI 0,zI (-1),.slice (some ⟨wZ,0,none⟩) 1 1,.string (bs [104,97,116,116,101,114]),zI 3,zI (-1),zS,.string (bs [109,101,114,99,101,114]),zI 2,zI (-1),.slice (some ⟨IB,0,none⟩) 1 1,.string (bs [109,105,108,108,105,110,101,114]),zI (-1),zI 1,zS]⟩ 145 (0,0)),(wZ,.cells ⟨[zI 0]⟩ 3 (0,0)),(IB,.cells ⟨[zI 3]⟩ 3 (0,0)),(qX,.cells ⟨[.string (bs [121]),.string (bs [105])]⟩ 45 (0,0)),(qW,.cells ⟨[.string (bs [115,109,105,116,104]),zI 0,zI 1,zI 0,.bool false,.string (bs [97,110,110,97]),zI 0,zI 2,zI 3,.bool false,.string (bs [115,109,121,116,104]),zI 1,zI 1,zI 2,.bool false]⟩ 55 (0,0)),(BT,.cells ⟨[.string (bs [115,109,121,116,104]),zI 0,zI 2,zI 0,.bool false,.string (bs [115,109,105,116,104]),zI 1,zI 1,zI (-1),.bool false,.string (bs [98,101,110]),zI 0,zI 1,zI 4,.bool false]⟩ 55 (0,0))]
abbrev aj5(wZ IB:Nat):List bA:=[⟨(bs [98,97,107,101,114]),1,-1,zS⟩,⟨(bs [98,111,110,110,101,116,115]),-1,3,zS⟩,⟨(bs [99,111,110,102,101,99,116,105,111,110,101,114]),0,-1,.slice (some ⟨wZ,0,none⟩) 1 1⟩,⟨(bs [104,97,116,116,101,114]),3,-1,zS⟩,⟨(bs [109,101,114,99,101,114]),2,-1,.slice (some ⟨IB,0,none⟩) 1 1⟩,⟨(bs [109,105,108,108,105,110,101,114]),-1,1,zS⟩]
theorem Ma{nQ OA Fs Jb b29 b9 Ab wZ IB qX qW BT:Nat}{n:Int}(hk:Knows ro (Ic nQ OA Fs Jb b29 b9 Ab wZ IB qX qW BT)):fF ro (DZ nQ Jb b9 Ab qX qW BT n) (aV n):=
 ⟨_,_,_,_,_,_,_,_,none,0,aj5 wZ IB,rfl,
  ⟨[.slice (some ⟨OA,0,none⟩) 2 2,.slice (some ⟨Fs,0,none⟩) 1 1],bU (enc:=fK) (T:=80) [.slice (some ⟨OA,0,none⟩) 2 2,.slice (some ⟨Fs,0,none⟩) 1 1] (hk _ (.head _)) (fun _ _=>rfl),
   .cons (bU (enc:=cJ) (T:=79) [⟨1,0⟩,⟨2,0⟩] (hk _ (.tail _ (.head _))) (fun _ _=>rfl)) (.cons (bU (enc:=cJ) (T:=79) [⟨1,0⟩] (hk _ (.tail _ (.tail _ (.head _)))) (fun _ _=>rfl)) .nil)⟩,
  ⟨[.slice (some ⟨b29,0,none⟩) 2 2],bU (enc:=fK) (T:=87) [.slice (some ⟨b29,0,none⟩) 2 2] (hk _ (.tail _ (.tail _ (.tail _ (.head _))))) (fun _ _=>rfl),
   .cons (bU (enc:=kO) (T:=83) [⟨1,0,0,0,0,0,0⟩,⟨2,0,0,0,0,0,0⟩] (hk _ (.tail _ (.tail _ (.tail _ (.tail _ (.head _)))))) (fun _ _=>rfl)) .nil⟩,
  ⟨bU (enc:=pd) (T:=142) Wz (hk _ (.tail _ (.tail _ (.tail _ (.tail _ (.tail _ (.head _))))))) (fun _ _=>rfl),bU (enc:=mf) (T:=145) (aj5 wZ IB) (hk _ (.tail _ (.tail _ (.tail _ (.tail _ (.tail _ (.tail _ (.head _)))))))) (fun _ _=>rfl),
   .cons ⟨rfl,rfl,rfl,bC.nil _ _ _ _ _⟩ (.cons ⟨rfl,rfl,rfl,bC.nil _ _ _ _ _⟩ (.cons ⟨rfl,rfl,rfl,bU (enc:=cm) (T:=3) [0] (hk _ (.tail _ (.tail _ (.tail _ (.tail _ (.tail _ (.tail _ (.tail _ (.head _))))))))) (fun _ _=>rfl)⟩ (.cons ⟨rfl,rfl,rfl,bC.nil _ _ _ _ _⟩ (.cons ⟨rfl,rfl,rfl,bU (enc:=cm) (T:=3) [3] (hk _ (.tail _ (.tail _ (.tail _ (.tail _ (.tail _ (.tail _ (.tail _ (.tail _ (.head _)))))))))) (fun _ _=>rfl)⟩ (.cons ⟨rfl,rfl,rfl,bC.nil _ _ _ _ _⟩ .nil)))))⟩,
  .cons ⟨rfl,rfl,rfl⟩ (.cons ⟨rfl,rfl,rfl⟩ (.cons ⟨rfl,rfl,rfl⟩ (.cons ⟨rfl,rfl,rfl⟩ (.cons ⟨rfl,rfl,rfl⟩ (.cons ⟨rfl,rfl,rfl⟩ .nil))))),
  bU (enc:=iG) (T:=45) [⟨(bs [121]),(bs [105])⟩] (hk _ (.tail _ (.tail _ (.tail _ (.tail _ (.tail _ (.tail _ (.tail _ (.tail _ (.tail _ (.head _))))))))))) (fun _ _=>rfl),bU (enc:=eA) (T:=55) Ol (hk _ (.tail _ (.tail _ (.tail _ (.tail _ (.tail _ (.tail _ (.tail _ (.tail _ (.tail _ (.tail _ (.head _)))))))))))) (fun _ _=>rfl),bU (enc:=eA) (T:=55) Om (hk _ (.tail _ (.tail _ (.tail _ (.tail _ (.tail _ (.tail _ (.tail _ (.tail _ (.tail _ (.tail _ (.tail _ (.head _))))))))))))) (fun _ _=>rfl),bC.nil _ _ _ _ _⟩
theorem Mb(nQ Jb b9 Ab qX qW BT:Nat)(n:Int):Tg (aV n) (DZ nQ Jb b9 Ab qX qW BT n):=
 ⟨_,_,_,_,_,_,_,_,none,0,rfl,vP rfl rfl rfl rfl rfl rfl rfl rfl⟩
theorem Mf{n:Int}:dE zT 45 [zI n] ro [] (fun r Y=>∃l,r= .agg ⟨l⟩∧(∀aD,Knows aD Y→fF aD l (aV n))∧Tg (aV n) l):=by
 refine zE<|zD 2<|jn fun b2=>zD 7<|jn fun b9=>jp (vs:=[.string (bs [98,97,107,101,114]),zI 1,zS]) [] [] (fun aG hs hZ=>cIs)<|jp (vs:=[.string (bs [98,111,110,110,101,116,115]),zI 3]) [] [] (fun aG hs hZ=>aHZ)<|jn fun wZ=>jp (vs:=[.string (bs [99,111,110,102,101,99,116,105,111,110,101,114]),zI 0,.slice (some ⟨wZ,0,none⟩) 1 1]) [] [] (fun aG hs hZ=>cIs)<|jp (vs:=[.string (bs [104,97,116,116,101,114]),zI 3,zS]) [] [] (fun aG hs hZ=>cIs)<|jn fun IB=>jp (vs:=[.string (bs [109,101,114,99,101,114]),zI 2,.slice (some ⟨IB,0,none⟩) 1 1]) [] [] (fun aG hs hZ=>cIs)<|jp (vs:=[.string (bs [109,105,108,108,105,110,101,114]),zI 1]) [] [] (fun aG hs hZ=>aHZ)<|jn fun Ab=>zD 1<|jn fun b3=>jd 6 [0]<|jn fun OA=>zD 1<|jn fun Fs=>jn fun nQ=>zD 3<|jn fun b29=>zD 1<|jn fun Jb=>zD 1<|jn fun b4=>jd 8 [0,0,6]<|jp (vs:=[.string (bs [115,109,105,116,104]),zI 0,zI 1,zI 0]) [] [] (fun aG hs hZ=>cAt)<|jp (vs:=[.string (bs [97,110,110,97]),zI 0,zI 2,zI 3]) [] [] (fun aG hs hZ=>cAt)<|jp (vs:=[.string (bs [115,109,121,116,104]),zI 1,zI 1,zI 2]) [] [] (fun aG hs hZ=>cAt)<|jp (vs:=[.string (bs [115,109,121,116,104]),zI 0,zI 2,zI 0]) [] [] (fun aG hs hZ=>cAt)<|jp (vs:=[.string (bs [115,109,105,116,104]),zI 1,zI 1,zI (-1)]) [] [] (fun aG hs hZ=>cAt)<|jp (vs:=[.string (bs [98,101,110]),zI 0,zI 1,zI 4]) [] [] (fun aG hs hZ=>cAt)<|IV [3,7,11] ⟨fun z1 t2 mZ=>?_,fun z4 t5 hL6=>?_,fun z7 t8 Sa=>?_,trivial⟩
 ·
  refine jn fun qX=>eo mZ (zN 1 12)<|IV [7,11] ⟨fun z10 t11 C3=>?_,fun z13 t14 V2=>?_,trivial⟩
  ·
   refine jn fun qW=>eo C3 (zN 1 13)<|aS 11 fun ap2 aqo EG=>jn fun BT=>eo EG (zN 1 14)<|zD 1<|aS 14 fun Xc Xm C2=>jd 1 [14]<|fU C2<|zD 2<|zR (.agg ⟨DZ nQ Jb b9 Ab qX qW BT n⟩) [14] [6,8,7,4,5,13,10,12,11,2,1,0] (Ic nQ OA Fs Jb b29 b9 Ab wZ IB qX qW BT) ⟨_,rfl,fun _ hk=>Ma hk,Mb _ _ _ _ _ _ _ _⟩
  refine jn fun BT=>eo V2 (zN 1 13)<|aS 7 fun adp aeb NU=>jn fun qW=>eo NU (zN 1 14)<|zD 1<|aS 14 fun ap1 aqn V1=>jd 1 [14]<|fU V1<|zD 2<|zR (.agg ⟨DZ nQ Jb b9 Ab qX qW BT n⟩) [14] [6,8,7,4,5,13,10,12,11,2,0,1] (Ic nQ OA Fs Jb b29 b9 Ab wZ IB qX qW BT) ⟨_,rfl,fun _ hk=>Ma hk,Mb _ _ _ _ _ _ _ _⟩
 ·
  refine jn fun qW=>eo hL6 (zN 1 12)<|IV [3,11] ⟨fun z20 t21 aiF=>?_,fun z23 t24 VY=>?_,trivial⟩
  ·
   refine jn fun qX=>eo aiF (zN 1 13)<|aS 11 fun ado aea EE=>jn fun BT=>eo EE (zN 1 14)<|zD 1<|aS 14 fun Pj PI C1=>jd 1 [14]<|fU C1<|zD 2<|zR (.agg ⟨DZ nQ Jb b9 Ab qX qW BT n⟩) [14] [6,8,7,4,5,13,10,12,11,1,2,0] (Ic nQ OA Fs Jb b29 b9 Ab wZ IB qX qW BT) ⟨_,rfl,fun _ hk=>Ma hk,Mb _ _ _ _ _ _ _ _⟩
  refine jn fun BT=>eo VY (zN 1 13)<|aS 3 fun Ph PH HG=>jn fun qX=>eo HG (zN 1 14)<|zD 1<|aS 14 fun Pg PG HF=>jd 1 [14]<|fU HF<|zD 2<|zR (.agg ⟨DZ nQ Jb b9 Ab qX qW BT n⟩) [14] [6,8,7,4,5,13,10,12,11,0,2,1] (Ic nQ OA Fs Jb b29 b9 Ab wZ IB qX qW BT) ⟨_,rfl,fun _ hk=>Ma hk,Mb _ _ _ _ _ _ _ _⟩
 refine jn fun BT=>eo Sa (zN 1 12)<|IV [3,7] ⟨fun z30 t31 VX=>?_,fun z33 t34 aiE=>?_,trivial⟩
 ·
  refine jn fun qX=>eo VX (zN 1 13)<|aS 7 fun adl ad7 NS=>jn fun qW=>eo NS (zN 1 14)<|zD 1<|aS 14 fun adk ad6 VW=>jd 1 [14]<|fU VW<|zD 2<|zR (.agg ⟨DZ nQ Jb b9 Ab qX qW BT n⟩) [14] [6,8,7,4,5,13,10,12,11,1,0,2] (Ic nQ OA Fs Jb b29 b9 Ab wZ IB qX qW BT) ⟨_,rfl,fun _ hk=>Ma hk,Mb _ _ _ _ _ _ _ _⟩
 refine jn fun qW=>eo aiE (zN 1 13)<|aS 3 fun apZ aql aiD=>jn fun qX=>eo aiD (zN 1 14)<|zD 1<|aS 14 fun apY aqk aiC=>jd 1 [14]<|fU aiC<|zD 2<|zR (.agg ⟨DZ nQ Jb b9 Ab qX qW BT n⟩) [14] [6,8,7,4,5,13,10,12,11,0,1,2] (Ic nQ OA Fs Jb b29 b9 Ab wZ IB qX qW BT) ⟨_,rfl,fun _ hk=>Ma hk,Mb _ _ _ _ _ _ _ _⟩
instance (nc nh i:Nat)(x:cy):Decidable (gG nc nh i x):=by unfold gG;infer_instance
instance (w:ByteArray):Decidable (Script w):=by unfold Script;infer_instance
theorem WN{p:Nat→α→Prop}{l:List α}(h:∀i (hi:i <l.length),p i l[i]):∀(i:Nat) (x:α),l[i]?=some x→p i x:=fun i x hx=>by
 obtain⟨h1,rfl⟩:=List.getElem?_eq_some_iff.1 hx
 exact h i h1
theorem Ib:∀(i:Nat) (x:cy),De[i]?=some x→gG 4 6 i x:=WN (by decide)
theorem Wy:∀(i:Nat) (x:cy),De[i]?=some x→As x.word=true:=WN (of_decide_eq_true (by kernel_rfl))
theorem aj4:∀(i:Nat) (x:bO),Wz[i]?=some x→As x.name=true∧ -1≤x.under∧x.under <i:=WN (of_decide_eq_true (by kernel_rfl))
def awq(hd:List cy)(i:Int):Bool:=decide (i= -1)||(decide (0≤i)&&match hd[i.toNat]? with
 |some x=>decide (0≤x.cls)
 |none=>false)
theorem e8{i:Int}(h:awq hd i=true):nX hd i:=by
 simp only[awq,Bool.or_eq_true,Bool.and_eq_true,decide_eq_true_eq] at h
 rcases h with h| ⟨h1,h2⟩
 ·exact .inl h
 split at h2
 ·rename_i x hx;exact .inr ⟨h1,x,hx,of_decide_eq_true h2⟩
 cases h2
def Qr(p:aA):Bool:=decide (((1≤p.name.size∧p.name.size≤6)∧Script p.name)∧(0≤p.st∧p.st≤1)∧p.bold=false)&&awq De p.head
theorem M9{p:aA}(h:Qr p=true):Fu De p:=by
 simp only[Qr,Bool.and_eq_true,decide_eq_true_eq] at h
 exact⟨h.1.1,e8 h.2,h.1.2⟩
theorem afe{p:aA}(h:Qr p=true):rG p.name∧nX De p.head:=by
 have:=M9 h
 exact⟨⟨this.1.1,this.1.2⟩,this.2.1⟩
theorem ZH:∀p∈Ol,Qr p=true:=by decide
theorem ZI:∀p∈Om,Qr p=true:=by decide
abbrev D5(n:Int)(fs:List bM):aB:={aV n with facts:=fs}
theorem asb{n:Int}(h:0≤n∧n≤4)(hf:fs.length≤3)(h1:∀x∈fs,(0≤x.a∧x.a <3)∧(0≤x.b∧x.b <3))(h2:fs.Pairwise fun x y=>¬(x.a=y.a∧x.b=y.b)):jz (D5 n fs) where
 oS:=⟨rfl,by simp,by simp[BF],by simp[amN]⟩
 ways:=⟨(by decide:(1:Nat)≤1),by simp[jA]⟩
 c8:=⟨(by decide:(0:Nat) <4∧4≤6),(by decide:(6:Nat)≤6),Ib⟩
 rules:=(by decide:(1:Nat)≤4)
 before:=⟨(by decide:(3:Nat)≤4),fun p hp=>⟨M9 (ZH p hp),by
  simp only[Ol,List.mem_cons,List.not_mem_nil,or_false] at hp
  rcases hp with rfl|rfl|rfl
  ·exact⟨_,rfl,by simp⟩
  ·exact⟨_,rfl,by simp⟩
  exact⟨_,rfl,by simp⟩⟩⟩
 after:=⟨(by decide:(3:Nat)≤4),fun p hp=>⟨M9 (ZI p hp),by
  simp only[Om,List.mem_cons,List.not_mem_nil,or_false] at hp
  rcases hp with rfl|rfl|rfl<;>decide⟩⟩
 tZ:=⟨(by decide:(0:Int)≤1∧(1:Int)≤4),(by decide:(0:Int)≤1∧(1:Int)≤4),h⟩
 facts:=⟨by show fs.length≤4;omega,h1⟩
 apart:=h2
theorem asa{n:Int}(hf:fs.length≤3)(h1:∀x∈fs,(0≤x.a∧x.a <3)∧(0≤x.b∧x.b <3)):eG (D5 n fs) where
 rules:=⟨(by decide:(1:Nat)≤4),by
  intro r hr
  rw[List.mem_singleton] at hr;subst hr
  have e:XE ⟨bs [121],bs [105]⟩=true:=by kernel_rfl
  simp only[XE,Bool.and_eq_true,Nat.ble_eq,Bool.not_eq_true'] at e
  exact⟨e.1,e.2.1,GV e.2.2.1,GV e.2.2.2.1,e.2.2.2.2⟩⟩
 before:=⟨(by decide:(3:Nat)≤4),fun p hp=>afe (ZH p hp)⟩
 after:=⟨(by decide:(3:Nat)≤4),fun p hp=>afe (ZI p hp)⟩
 c8:=⟨(by decide:(0:Nat) <4∧4≤6),(by decide:(6:Nat)≤6),aj4,by simp only[Ax];decide,fun i x hx=>⟨Wy i x hx,Ib i x hx⟩,by simp only[Ax,PW];decide⟩
 facts:=⟨by show fs.length≤4;omega,h1⟩
theorem aHX{v0 v1 v3 v4 v5 v6 v7 vb:Value}{fa fb:Option Addr}{fn fd:Nat}{g0 g1 g2:Int}(hs:∀v∈[v0,v1,(.slice fa 0 fc),v3,v4,v5,v6,v7,zI g0,zI g1,zI g2,(.slice fb fn fd)],single v=true):dr zT 49 [.agg ⟨[v0,v1,(.slice fa 0 fc),v3,v4,v5,v6,v7,zI g0,zI g1,zI g2,vb]⟩,(.slice fb fn fd)] ro (.agg ⟨[v0,v1,(.slice fa 0 fc),v3,v4,v5,v6,v7,zI g0,zI g1,zI g2,(.slice fb fn fd)]⟩):=by
 refine zE<|zD 2<|jn fun b2=>jn fun b4=>jd 10 [1,1]<|jsx 0 b4 0 zO [v0,v1,(.slice fa 0 fc),v3,v4,v5,v6,v7,zI g0,zI g1,zI g2,(.slice fb fn fd)] 40 hs rfl<|zD 2<|zR (.agg ⟨[v0,v1,(.slice fa 0 fc),v3,v4,v5,v6,v7,zI g0,zI g1,zI g2,(.slice fb fn fd)]⟩) [0] [] [] ⟨rfl,rfl⟩
end Go.L
