/- Part 10 of the proof. -/
import Derived.Test.YtfamogolneloaaaGreatDoorT9
set_option maxRecDepth 100000
set_option linter.all false
namespace Go.L
open Go Go.Conc Go.Proofs
variable {ro aC:Nat→Option Obj} {ways:List (List aL)} {ys xs:List Int} {K:aE} {l:List Value} {k n b fc b1 i ck bl b2 b3 JZ ck0 r1 en ec:Nat} {Stop:Cells→Prop} {α:Type} {x f y j:Int} {vS vT:Value} {seen:List Nat} {hd:List cy} {fs:List bK} {Z B LE:Cells}
def ayu(S:List (List ai))(c:aL):List (an×an):=
 if c.k=1 then ad5 c.st (S[c.st.toNat]?.getD []) else if c.k=2 then Lf c.st (S[c.st.toNat]?.getD []) else Mv c.st c.ot (S[c.st.toNat]?.getD []) (sg (S[c.ot.toNat]?.getD []))
def z0(S:List (List ai))(c:aL)(x:an):an:=gU (ayu S c) x
theorem qk{l:List α}(h:l.length=2):∃a b,l=[a,b]:=by
 match l,h with
 | [a,b],_=>exact⟨a,b,rfl⟩
theorem S2:dv zT 220 [] ro (.agg ⟨[.nilFunc,.func (.func 240) ⟨[]⟩ ⟨[]⟩,.func (.func 241) ⟨[]⟩ ⟨[]⟩,.func (.func 242) ⟨[]⟩ ⟨[]⟩,.func (.func 243) ⟨[]⟩ ⟨[]⟩,.func (.func 244) ⟨[]⟩ ⟨[]⟩,.func (.func 245) ⟨[]⟩ ⟨[]⟩,.func (.func 246) ⟨[]⟩ ⟨[]⟩]⟩):=by
 refine zE<|zD 2<|jn fun b0=>jd 7 [0]<|zR (.agg ⟨[.nilFunc,.func (.func 240) ⟨[]⟩ ⟨[]⟩,.func (.func 241) ⟨[]⟩ ⟨[]⟩,.func (.func 242) ⟨[]⟩ ⟨[]⟩,.func (.func 243) ⟨[]⟩ ⟨[]⟩,.func (.func 244) ⟨[]⟩ ⟨[]⟩,.func (.func 245) ⟨[]⟩ ⟨[]⟩,.func (.func 246) ⟨[]⟩ ⟨[]⟩]⟩) [0] [] [] ⟨rfl,rfl⟩
theorem aHj{v:Value}{S:List (List ai)}(hS:cQ ro v S)(hO:fo S):dQ zT 194 [.agg ⟨[v]⟩,.agg ⟨[zI 1,zI 0,zI 0,zI 0,zI 0,zI 0,zI 0]⟩] ro [] (fun r Y=>∃rm F LM Z,r= .tuple ⟨[.map (some rm),zI 0]⟩∧Y=LM++Z∧kK rm px F LM∧F.map (·.1)=bI S∧MV Z F (z0 S ⟨1,0,0,0,0,0,0⟩)):=by
 obtain⟨p,q,rfl⟩:=qk hO.two
 have xU:=hS
 obtain⟨ws,ht,dr⟩:=hS
 obtain⟨w1,w2,rfl⟩:=qk (dr.len.trans hO.two)
 obtain⟨eB,yM,yK,dH,rfl,yL,qt,qp⟩:=ht
 refine zE<|zD 2<|jn fun b2=>jn fun b3=>jd 8 [0]<|jp (vs:=[zI 1,zI 1,zI 7]) [] [] (fun aF hs hZ=>BU)<|jd 18 [1,0]<|jp (vs:=[zI 0,zI 0,zI 1]) [] [] (fun aF hs hZ=>BU)<|jd 70 [0,0,0,0,0,0]<|TY Fv (u9 0 0 0 0)<|zD 3<|js 73 (!(0==0&&(0==0&&true))) (fun h1=>?_) (fun h1=>?_)
 ·
  have fH:=h1
  try simp only[zB] at fH
  exact absurd fH (by decide)
 have fH:=h1
 try simp only[zB] at fH
 refine jd 6 [0]<|TY Fv (u9 0 0 0 0)<|zD 3<|js 82 (!(0==0&&(0==0&&true))) (fun h2=>?_) (fun h2=>?_)
 ·
  exact absurd h2 (by decide)
 refine jd 5 [1]<|jc (vs:=[.agg ⟨[.slice eB 2 dH]⟩]) [] (MO (xU) hO) ?_
 rintro _ _ ⟨rm,F,LM,Z,rfl,rfl,hmM,hkM,hMM⟩
 refine jg 0 [.l LM,.l Z]<|jd 10 [2,3,2]<|jp [] [] (fun aF hs hZ=>S2)<|zD 1<|aS 7 fun E5 E9 Cy=>jc (vs:=[.agg ⟨[.slice eB 2 dH]⟩,.agg ⟨[zI 1,zI 0,zI 0,zI 0,zI 0,zI 0,zI 0]⟩,(.map (some rm))]) [0,1] (ZB (s:=0) xU hO rfl hmM hkM hMM) ?_
 rintro _ _ ⟨F2,PE,Z2,rfl,rfl,Gr,iJ,hM2⟩
 refine jg 0 [.l PE,.l Z2]<|fR Cy [[2]]<|zD 16<|zR (.tuple ⟨[(.map (some rm)),zI 0]⟩) [] [0,1] (PE++Z2) ⟨rm,F2,PE,Z2,rfl,rfl,Gr,iJ,hM2⟩
theorem aHi{v:Value}{S:List (List ai)}(hS:cQ ro v S)(hO:fo S):dQ zT 194 [.agg ⟨[v]⟩,.agg ⟨[zI 2,zI 0,zI 0,zI 0,zI 0,zI 0,zI 0]⟩] ro [] (fun r Y=>∃rm F LM Z,r= .tuple ⟨[.map (some rm),zI 0]⟩∧Y=LM++Z∧kK rm px F LM∧F.map (·.1)=bI S∧MV Z F (z0 S ⟨2,0,0,0,0,0,0⟩)):=by
 obtain⟨p,q,rfl⟩:=qk hO.two
 have xU:=hS
 obtain⟨ws,ht,dr⟩:=hS
 obtain⟨w1,w2,rfl⟩:=qk (dr.len.trans hO.two)
 obtain⟨eB,yM,yK,dH,rfl,yL,qt,qp⟩:=ht
 refine zE<|zD 2<|jn fun b2=>jn fun b3=>jd 8 [0]<|jp (vs:=[zI 2,zI 1,zI 7]) [] [] (fun aF hs hZ=>BU)<|jd 18 [1,0]<|jp (vs:=[zI 0,zI 0,zI 1]) [] [] (fun aF hs hZ=>BU)<|jd 70 [0,0,0,0,0,0]<|TY Fv (u9 0 0 0 0)<|zD 3<|js 73 (!(0==0&&(0==0&&true))) (fun h1=>?_) (fun h1=>?_)
 ·
  have fH:=h1
  try simp only[zB] at fH
  exact absurd fH (by decide)
 have fH:=h1
 try simp only[zB] at fH
 refine jd 6 [0]<|TY Fv (u9 0 0 0 0)<|zD 3<|js 82 (!(0==0&&(0==0&&true))) (fun h2=>?_) (fun h2=>?_)
 ·
  exact absurd h2 (by decide)
 refine jd 5 [1]<|jc (vs:=[.agg ⟨[.slice eB 2 dH]⟩]) [] (MO (xU) hO) ?_
 rintro _ _ ⟨rm,F,LM,Z,rfl,rfl,hmM,hkM,hMM⟩
 refine jg 0 [.l LM,.l Z]<|jd 10 [2,3,2]<|jp [] [] (fun aF hs hZ=>S2)<|zD 1<|aS 7 fun E5 E9 Cy=>jc (vs:=[.agg ⟨[.slice eB 2 dH]⟩,.agg ⟨[zI 2,zI 0,zI 0,zI 0,zI 0,zI 0,zI 0]⟩,(.map (some rm))]) [0,1] (S1 (s:=0) xU hO rfl hmM hkM hMM) ?_
 rintro _ _ ⟨F2,PE,Z2,rfl,rfl,Gr,iJ,hM2⟩
 refine jg 0 [.l PE,.l Z2]<|fR Cy [[2]]<|zD 16<|zR (.tuple ⟨[(.map (some rm)),zI 0]⟩) [] [0,1] (PE++Z2) ⟨rm,F2,PE,Z2,rfl,rfl,Gr,iJ,hM2⟩
theorem aHh{v:Value}{S:List (List ai)}(hS:cQ ro v S)(hO:fo S):dQ zT 194 [.agg ⟨[v]⟩,.agg ⟨[zI 1,zI 1,zI 0,zI 0,zI 0,zI 0,zI 0]⟩] ro [] (fun r Y=>∃rm F LM Z,r= .tuple ⟨[.map (some rm),zI 0]⟩∧Y=LM++Z∧kK rm px F LM∧F.map (·.1)=bI S∧MV Z F (z0 S ⟨1,1,0,0,0,0,0⟩)):=by
 obtain⟨p,q,rfl⟩:=qk hO.two
 have xU:=hS
 obtain⟨ws,ht,dr⟩:=hS
 obtain⟨w1,w2,rfl⟩:=qk (dr.len.trans hO.two)
 obtain⟨eB,yM,yK,dH,rfl,yL,qt,qp⟩:=ht
 refine zE<|zD 2<|jn fun b2=>jn fun b3=>jd 8 [0]<|jp (vs:=[zI 1,zI 1,zI 7]) [] [] (fun aF hs hZ=>BU)<|jd 18 [1,0]<|jp (vs:=[zI 1,zI 0,zI 1]) [] [] (fun aF hs hZ=>BU)<|jd 70 [0,0,0,0,0,0]<|TY Fv (u9 0 0 0 0)<|zD 3<|js 73 (!(0==0&&(0==0&&true))) (fun h1=>?_) (fun h1=>?_)
 ·
  have fH:=h1
  try simp only[zB] at fH
  exact absurd fH (by decide)
 have fH:=h1
 try simp only[zB] at fH
 refine jd 6 [0]<|TY Fv (u9 0 0 0 0)<|zD 3<|js 82 (!(0==0&&(0==0&&true))) (fun h2=>?_) (fun h2=>?_)
 ·
  exact absurd h2 (by decide)
 refine jd 5 [1]<|jc (vs:=[.agg ⟨[.slice eB 2 dH]⟩]) [] (MO (xU) hO) ?_
 rintro _ _ ⟨rm,F,LM,Z,rfl,rfl,hmM,hkM,hMM⟩
 refine jg 0 [.l LM,.l Z]<|jd 10 [2,3,2]<|jp [] [] (fun aF hs hZ=>S2)<|zD 1<|aS 7 fun E5 E9 Cy=>jc (vs:=[.agg ⟨[.slice eB 2 dH]⟩,.agg ⟨[zI 1,zI 1,zI 0,zI 0,zI 0,zI 0,zI 0]⟩,(.map (some rm))]) [0,1] (ZB (s:=1) xU hO rfl hmM hkM hMM) ?_
 rintro _ _ ⟨F2,PE,Z2,rfl,rfl,Gr,iJ,hM2⟩
 refine jg 0 [.l PE,.l Z2]<|fR Cy [[2]]<|zD 16<|zR (.tuple ⟨[(.map (some rm)),zI 0]⟩) [] [0,1] (PE++Z2) ⟨rm,F2,PE,Z2,rfl,rfl,Gr,iJ,hM2⟩
theorem aHg{v:Value}{S:List (List ai)}(hS:cQ ro v S)(hO:fo S):dQ zT 194 [.agg ⟨[v]⟩,.agg ⟨[zI 2,zI 1,zI 0,zI 0,zI 0,zI 0,zI 0]⟩] ro [] (fun r Y=>∃rm F LM Z,r= .tuple ⟨[.map (some rm),zI 0]⟩∧Y=LM++Z∧kK rm px F LM∧F.map (·.1)=bI S∧MV Z F (z0 S ⟨2,1,0,0,0,0,0⟩)):=by
 obtain⟨p,q,rfl⟩:=qk hO.two
 have xU:=hS
 obtain⟨ws,ht,dr⟩:=hS
 obtain⟨w1,w2,rfl⟩:=qk (dr.len.trans hO.two)
 obtain⟨eB,yM,yK,dH,rfl,yL,qt,qp⟩:=ht
 refine zE<|zD 2<|jn fun b2=>jn fun b3=>jd 8 [0]<|jp (vs:=[zI 2,zI 1,zI 7]) [] [] (fun aF hs hZ=>BU)<|jd 18 [1,0]<|jp (vs:=[zI 1,zI 0,zI 1]) [] [] (fun aF hs hZ=>BU)<|jd 70 [0,0,0,0,0,0]<|TY Fv (u9 0 0 0 0)<|zD 3<|js 73 (!(0==0&&(0==0&&true))) (fun h1=>?_) (fun h1=>?_)
 ·
  have fH:=h1
  try simp only[zB] at fH
  exact absurd fH (by decide)
 have fH:=h1
 try simp only[zB] at fH
 refine jd 6 [0]<|TY Fv (u9 0 0 0 0)<|zD 3<|js 82 (!(0==0&&(0==0&&true))) (fun h2=>?_) (fun h2=>?_)
 ·
  exact absurd h2 (by decide)
 refine jd 5 [1]<|jc (vs:=[.agg ⟨[.slice eB 2 dH]⟩]) [] (MO (xU) hO) ?_
 rintro _ _ ⟨rm,F,LM,Z,rfl,rfl,hmM,hkM,hMM⟩
 refine jg 0 [.l LM,.l Z]<|jd 10 [2,3,2]<|jp [] [] (fun aF hs hZ=>S2)<|zD 1<|aS 7 fun E5 E9 Cy=>jc (vs:=[.agg ⟨[.slice eB 2 dH]⟩,.agg ⟨[zI 2,zI 1,zI 0,zI 0,zI 0,zI 0,zI 0]⟩,(.map (some rm))]) [0,1] (S1 (s:=1) xU hO rfl hmM hkM hMM) ?_
 rintro _ _ ⟨F2,PE,Z2,rfl,rfl,Gr,iJ,hM2⟩
 refine jg 0 [.l PE,.l Z2]<|fR Cy [[2]]<|zD 16<|zR (.tuple ⟨[(.map (some rm)),zI 0]⟩) [] [0,1] (PE++Z2) ⟨rm,F2,PE,Z2,rfl,rfl,Gr,iJ,hM2⟩
theorem aHf{v:Value}{S:List (List ai)}(hS:cQ ro v S)(hO:fo S):dQ zT 194 [.agg ⟨[v]⟩,.agg ⟨[zI 4,zI 1,zI 0,zI 0,zI 0,zI 0,zI 0]⟩] ro [] (fun r Y=>∃rm F LM Z,r= .tuple ⟨[.map (some rm),zI 0]⟩∧Y=LM++Z∧kK rm px F LM∧F.map (·.1)=bI S∧MV Z F (z0 S ⟨4,1,0,0,0,0,0⟩)):=by
 obtain⟨p,q,rfl⟩:=qk hO.two
 have xU:=hS
 obtain⟨ws,ht,dr⟩:=hS
 obtain⟨w1,w2,rfl⟩:=qk (dr.len.trans hO.two)
 obtain⟨eB,yM,yK,dH,rfl,yL,qt,qp⟩:=ht
 refine zE<|zD 2<|jn fun b2=>jn fun b3=>jd 8 [0]<|jp (vs:=[zI 4,zI 1,zI 7]) [] [] (fun aF hs hZ=>BU)<|jd 18 [1,0]<|jp (vs:=[zI 1,zI 0,zI 1]) [] [] (fun aF hs hZ=>BU)<|jd 33 [0,0,0,0]<|jp (vs:=[zI 0,zI 0,zI 1]) [] [] (fun aF hs hZ=>BU)<|jd 36 [0,0,0]<|TY Fv (u9 0 0 0 0)<|zD 3<|js 73 (!(0==0&&(0==0&&true))) (fun h1=>?_) (fun h1=>?_)
 ·
  have fH:=h1
  try simp only[zB] at fH
  exact absurd fH (by decide)
 have fH:=h1
 try simp only[zB] at fH
 refine jd 6 [0]<|TY Fv (u9 0 0 0 0)<|zD 3<|js 82 (!(0==0&&(0==0&&true))) (fun h2=>?_) (fun h2=>?_)
 ·
  exact absurd h2 (by decide)
 refine jd 5 [1]<|jc (vs:=[.agg ⟨[.slice eB 2 dH]⟩]) [] (MO (xU) hO) ?_
 rintro _ _ ⟨rm,F,LM,Z,rfl,rfl,hmM,hkM,hMM⟩
 refine jg 0 [.l LM,.l Z]<|jd 10 [2,3,2]<|jp [] [] (fun aF hs hZ=>S2)<|zD 1<|aS 7 fun E5 E9 Cy=>jc (vs:=[.agg ⟨[.slice eB 2 dH]⟩,.agg ⟨[zI 4,zI 1,zI 0,zI 0,zI 0,zI 0,zI 0]⟩,(.map (some rm))]) [0,1] (ao0 (s:=1) (o:=0) xU hO rfl hmM hkM hMM rfl) ?_
 rintro _ _ ⟨F2,PE,Z2,rfl,rfl,Gr,iJ,hM2⟩
 refine jg 0 [.l PE,.l Z2]<|fR Cy [[2]]<|zD 16<|zR (.tuple ⟨[(.map (some rm)),zI 0]⟩) [] [0,1] (PE++Z2) ⟨rm,F2,PE,Z2,rfl,rfl,Gr,iJ,hM2⟩
def abq(n:Nat):Int:=if n=0 then 0 else if n <2 then 1 else if n <4 then 2 else if n <8 then 3 else 4
theorem ayi:∀ {n:Nat},n≤12→dv zT 180 [zU (n:Int)] ro (zI (abq n))
 |0,_=>by refine bw ar [] [] aU (zD 35 (ja 0 (by decide) (zD 3 ?_)));exact aI q0 (zI 0) [] [] [] (Sub.refl _) ⟨_,_,rfl,rfl,rfl,rfl⟩
 |1,_=>by refine bw ar [] [] aU (zD 35 (ja 1 (by decide) (zD 3 ?_)));exact aI q0 (zI 1) [] [] [] (Sub.refl _) ⟨_,_,rfl,rfl,rfl,rfl⟩
 |2,_=>by refine bw ar [] [] aU (zD 35 (ja 2 (by decide) (zD 3 ?_)));exact aI q0 (zI 2) [] [] [] (Sub.refl _) ⟨_,_,rfl,rfl,rfl,rfl⟩
 |3,_=>by refine bw ar [] [] aU (zD 35 (ja 2 (by decide) (zD 3 ?_)));exact aI q0 (zI 2) [] [] [] (Sub.refl _) ⟨_,_,rfl,rfl,rfl,rfl⟩
 |4,_=>by refine bw ar [] [] aU (zD 35 (ja 3 (by decide) (zD 3 ?_)));exact aI q0 (zI 3) [] [] [] (Sub.refl _) ⟨_,_,rfl,rfl,rfl,rfl⟩
 |5,_=>by refine bw ar [] [] aU (zD 35 (ja 3 (by decide) (zD 3 ?_)));exact aI q0 (zI 3) [] [] [] (Sub.refl _) ⟨_,_,rfl,rfl,rfl,rfl⟩
 |6,_=>by refine bw ar [] [] aU (zD 35 (ja 3 (by decide) (zD 3 ?_)));exact aI q0 (zI 3) [] [] [] (Sub.refl _) ⟨_,_,rfl,rfl,rfl,rfl⟩
 |7,_=>by refine bw ar [] [] aU (zD 35 (ja 3 (by decide) (zD 3 ?_)));exact aI q0 (zI 3) [] [] [] (Sub.refl _) ⟨_,_,rfl,rfl,rfl,rfl⟩
 |8,_=>by refine bw ar [] [] aU (zD 35 (ja 4 (by decide) (zD 3 ?_)));exact aI q0 (zI 4) [] [] [] (Sub.refl _) ⟨_,_,rfl,rfl,rfl,rfl⟩
 |9,_=>by refine bw ar [] [] aU (zD 35 (ja 4 (by decide) (zD 3 ?_)));exact aI q0 (zI 4) [] [] [] (Sub.refl _) ⟨_,_,rfl,rfl,rfl,rfl⟩
 |10,_=>by refine bw ar [] [] aU (zD 35 (ja 4 (by decide) (zD 3 ?_)));exact aI q0 (zI 4) [] [] [] (Sub.refl _) ⟨_,_,rfl,rfl,rfl,rfl⟩
 |11,_=>by refine bw ar [] [] aU (zD 35 (ja 4 (by decide) (zD 3 ?_)));exact aI q0 (zI 4) [] [] [] (Sub.refl _) ⟨_,_,rfl,rfl,rfl,rfl⟩
 |12,_=>by refine bw ar [] [] aU (zD 35 (ja 4 (by decide) (zD 3 ?_)));exact aI q0 (zI 4) [] [] [] (Sub.refl _) ⟨_,_,rfl,rfl,rfl,rfl⟩
 |n+13,h=>absurd h (by omega)
theorem ady(h:n≤1000):Value.int .u64 (IntKind.u64.wrap (n:Int))= zU (n:Int):=by
 rw[sN .u64 rfl _ (by omega) (by simp[IntKind.bits];omega)]
def Py(v:Value)(xs:List ai)(Y:Cells):Prop:=∃ys,ys.Perm xs∧aw v 2 73 cA ys Y
theorem ayj(h:n≤12):dv zT 152 [zU (n:Int)] ro (zI (abq n)):=by
 refine zE<|zD 10<|jp (vs:=[zU (n:Int)]) [] [] (fun aF hs hZ=>(ayi h))<|zD 3<|zX (zI (abq n)) ⟨rfl,rfl⟩
theorem aTS{v:Value}{xs:List ai}{L:Cells}{a b:Int}(ho:aw v 2 73 cA xs L)(hN:xs.length≤1000)(Cw:0≤a∧a≤b∧b≤xs.length):dQ zT 264 [v,zI a,zI b,.func (.func 201) ⟨[]⟩ ⟨[]⟩] ro L (fun r Y=>Py v xs Y):=by
 refine zC [.l L]<|zD 3<|ja (a+1) (by omega)<|zD 3<|dL [1,0,0] [] (fun(zz:Int×(List ai)×Cells)=>[(0,v),(1,zI a),(2,zI b),(3,.func (.func 201) ⟨[]⟩ ⟨[]⟩),(8,zI zz.1)]) (fun zz=>[.l zz.2.2]) (fun zz=>(a+1≤zz.1)∧aw v 2 73 cA zz.2.1 zz.2.2∧zz.2.1.Perm xs) (fun zz=>(b-zz.1).toNat) (⟨(a+1),xs,L⟩) ⟨by dsimp only;omega,ho,.refl _⟩ [0] ?_
 rintro⟨i,ys,L⟩ hI K1 bE rest
 dsimp only at hI
 have T3:=hI.2.2.length_eq
 refine zD 7<|zJ 14 (i <b) (fun h1=>?_) fun h1=>?_
 ·
  refine zD 10<|dL [1,0,0,1,0,0,1,0,0] [K1] (fun(zz:Int×(List ai)×Cells)=>[(0,v),(1,zI a),(2,zI b),(3,.func (.func 201) ⟨[]⟩ ⟨[]⟩),(8,zI i),(9,zI zz.1)]) (fun zz=>[.l zz.2.2]) (fun zz=>(a≤zz.1∧zz.1≤i)∧aw v 2 73 cA zz.2.1 zz.2.2∧zz.2.1.Perm xs) (fun zz=>(zz.1-a).toNat) (⟨i,ys,L⟩) ⟨by dsimp only;omega,hI.2⟩ [0] ?_
  rintro⟨j,ys,L⟩ hJ K2 lG rest
  dsimp only at hJ
  have T3:=hJ.2.2.length_eq
  refine zD 7<|js 3 (decide (j>a)) (fun h2=>?_) (fun h2=>?_)
  ·
   have kI:=h2
   replace kI:=of_decide_eq_true kI
   refine zD 3 ?_
   obtain⟨zc,lS⟩:=zG ys (j.toNat) (by first|omega| (simp only[List.length_set];omega))
   refine qA j 2 hJ.2.1 lS (Int.toNat_of_nonneg (show 0≤j∧j <((ys).length:Int) from (by first|omega| (simp only[List.length_set];omega))).1).symm (fun oF aiB=>?_)
   refine oQ 0 [0] L (fun s _ hZ=>cJ hJ.2.1 aiB hZ lS)<|zD 2<|ja (j-1) (by omega) ?_
   obtain⟨oH,jL⟩:=zG ys ((j-1).toNat) (by first|omega| (simp only[List.length_set];omega))
   refine qA (j-1) 2 hJ.2.1 jL (Int.toNat_of_nonneg (show 0≤(j-1)∧(j-1) <((ys).length:Int) from (by first|omega| (simp only[List.length_set];omega))).1).symm (fun b30 V9=>?_)
   refine oQ 0 [0] L (fun s _ hZ=>cJ hJ.2.1 V9 hZ jL)<|aS 14 fun rZ r8 qM=>jp (vs:=[.agg ⟨[zI zc.n,zI zc.l]⟩,.agg ⟨[zI oH.n,zI oH.l]⟩]) [] [] (fun aF hs hZ=>(ar3 (x:=zc) (y:=oH)))<|ep qM [0]<|zD 3<|zJ 34 ((acp zc oH) <0) (fun h4=>?_) fun h4=>?_
   ·
    refine zD 9<|ja (j-1) (by omega)<|zD 2<|ja (j-1) (by omega) ?_
    obtain⟨yl,FE⟩:=zG ys ((j-1).toNat) (by first|omega| (simp only[List.length_set];omega))
    refine qA (j-1) 2 hJ.2.1 FE (Int.toNat_of_nonneg (show 0≤(j-1)∧(j-1) <((ys).length:Int) from (by first|omega| (simp only[List.length_set];omega))).1).symm (fun b45 aiA=>?_)
    refine oQ 0 [0] L (fun s _ hZ=>cJ hJ.2.1 aiA hZ FE)<|zD 2 ?_
    obtain⟨J1,FD⟩:=zG ys (j.toNat) (by first|omega| (simp only[List.length_set];omega))
    refine qA j 2 hJ.2.1 FD (Int.toNat_of_nonneg (show 0≤j∧j <((ys).length:Int) from (by first|omega| (simp only[List.length_set];omega))).1).symm (fun b49 aiz=>?_)
    refine oQ 0 [0] L (fun s _ hZ=>cJ hJ.2.1 aiz hZ FD) ?_
    obtain⟨x51,FC⟩:=zG ys (j.toNat) (by first|omega| (simp only[List.length_set];omega))
    refine qA j 2 hJ.2.1 FC (Int.toNat_of_nonneg (show 0≤j∧j <((ys).length:Int) from (by first|omega| (simp only[List.length_set];omega))).1).symm (fun b51 aiy=>?_)
    refine aS 15 fun sL sR qL=>R6 0 0 [zI yl.n,zI yl.l] (⟨yl.n,yl.l⟩:ai) hJ.2.1 aiy FC rfl rfl (Nat.le_of_ble_eq_true rfl) fun L6 ho7=>fR qL [] ?_
    obtain⟨x52,wI⟩:=zG ((ys.set j.toNat (⟨yl.n,yl.l⟩:ai))) ((j-1).toNat) (by first|omega| (simp only[List.length_set];omega))
    refine qA (j-1) 2 ho7 wI (Int.toNat_of_nonneg (show 0≤(j-1)∧(j-1) <(((ys.set j.toNat (⟨yl.n,yl.l⟩:ai))).length:Int) from (by first|omega| (simp only[List.length_set];omega))).1).symm (fun b52 aix=>?_)
    refine aS 17 fun A0 Bm Au=>R6 0 0 [zI J1.n,zI J1.l] (⟨J1.n,J1.l⟩:ai) ho7 aix wI rfl rfl (Nat.le_of_ble_eq_true rfl) fun L9 ahT=>gA Au<|zD 3<|ja (j-1) (by omega)<|zD 2<|bF lG (⟨(j-1),((ys.set j.toNat (⟨yl.n,yl.l⟩:ai)).set ((j-1).toNat) (⟨J1.n,J1.l⟩:ai)),L9⟩) ⟨by dsimp only;omega,ahT,(nX FD FE).trans hJ.2.2⟩ (by dsimp only;omega) [0] (Sub.refl _)
   refine zD 4<|ja (i+1) (by omega)<|zD 2<|bF bE (⟨(i+1),ys,L⟩) ⟨by dsimp only;omega,hJ.2⟩ (by dsimp only;omega) [0] (Sub.refl _)
  have kI:=h2
  replace kI:=of_decide_eq_false kI
  refine zD 18<|ja (i+1) (by omega)<|zD 2<|bF bE (⟨(i+1),ys,L⟩) ⟨by dsimp only;omega,hJ.2⟩ (by dsimp only;omega) [0] (Sub.refl _)
 refine zD 2<|zR (.tuple ⟨[]⟩) [] [0] L ⟨ys,hI.2.2,hI.2.1⟩
theorem aTQ{v:Value}{xs:List ai}{L:Cells}{lim:Int}(ho:aw v 2 73 cA xs L)(hN:xs.length≤12):dQ zT 247 [v,zI 0,zI (xs.length:Int),zI lim,.func (.func 201) ⟨[]⟩ ⟨[]⟩] ro L (fun r Y=>Py v xs Y):=by
 refine zC [.l L]<|zD 9<|dL [1,1,0,0] [] (fun(zz:Nat)=>[(0,v),(1,zI 0),(2,zI (xs.length:Int)),(3,zI lim),(4,.func (.func 201) ⟨[]⟩ ⟨[]⟩),(10,.bool true),(11,.bool true)]) (fun zz=>[.l L]) (fun zz=>True) (fun zz=>zz) 0 trivial [0] ?_
 rintro z hI K1 bE rest
 refine zD 5<|ja ((xs.length:Int)-0) (by omega)<|zD 8<|zJ 25 (((xs.length:Int)-0)≤12) (fun h1=>?_) fun h1=>?_
 ·
  refine zD 7<|jc (vs:=[v,zI 0,zI (xs.length:Int),.func (.func 201) ⟨[]⟩ ⟨[]⟩]) [0] (aTS ho (by omega) (by omega)) ?_
  rintro aBT Y30 ⟨aKL,awo,wN⟩
  refine zD 2<|zR (.tuple ⟨[]⟩) [] [0] Y30 ⟨_,awo,wN⟩
 exfalso;omega
theorem ajx{v:Value}{xs:List ai}{L:Cells}(ho:aw v 2 73 cA xs L)(hN:xs.length≤12):dQ zT 221 [v,.func (.func 201) ⟨[]⟩ ⟨[]⟩] ro L (fun r Y=>Py v xs Y):=by
 refine zC [.l L]<|zD 3<|Fy ho<|zD 6<|je (zU (xs.length:Int)) (ady (by omega))<|jp (vs:=[zU (xs.length:Int)]) [] [] (fun aF hs hZ=>(ayj (by omega)))<|zD 1<|jc (vs:=[v,zI 0,zI (xs.length:Int),zI (abq xs.length),.func (.func 201) ⟨[]⟩ ⟨[]⟩]) [0] (aTQ ho (by omega)) ?_
 rintro aBU Y13 ⟨aKN,abO,VW⟩
 refine zD 1<|zR (.tuple ⟨[]⟩) [] [0] Y13 ⟨_,abO,VW⟩
theorem aHb{v:Value}{xs:List an}{L:Cells}(ho:aw v 3 164 cS xs L)(hN:xs.length≤1):dQ zT 222 [v,zI 0,zI (xs.length:Int),.func (.func 161) ⟨[]⟩ ⟨[]⟩] ro L (fun r Y=>aw v 3 164 cS xs Y):=by
 refine zC [.l L]<|zD 7<|dL [1,0,0] [] (fun(zz:Nat)=>[(0,v),(1,zI 0),(2,zI (xs.length:Int)),(3,.func (.func 161) ⟨[]⟩ ⟨[]⟩),(8,zI (0+1))]) (fun zz=>[.l L]) (fun zz=>True) (fun zz=>zz) 0 trivial [0] ?_
 rintro z hI K1 bE rest
 refine zD 7<|zJ 14 ((0+1) <(xs.length:Int)) (fun h1=>?_) fun h1=>?_
 ·
  exfalso;omega
 refine zD 2<|zR (.tuple ⟨[]⟩) [] [0] L ho
theorem aG6{v:Value}{xs:List an}{L:Cells}{lim:Int}(ho:aw v 3 164 cS xs L)(hN:xs.length≤1):dQ zT 199 [v,zI 0,zI (xs.length:Int),zI lim,.func (.func 161) ⟨[]⟩ ⟨[]⟩] ro L (fun r Y=>aw v 3 164 cS xs Y):=by
 refine zC [.l L]<|zD 9<|dL [1,1,0,0] [] (fun(zz:Nat)=>[(0,v),(1,zI 0),(2,zI (xs.length:Int)),(3,zI lim),(4,.func (.func 161) ⟨[]⟩ ⟨[]⟩),(10,.bool true),(11,.bool true)]) (fun zz=>[.l L]) (fun zz=>True) (fun zz=>zz) 0 trivial [0] ?_
 rintro z hI K1 bE rest
 refine zD 5<|ja ((xs.length:Int)-0) (by omega)<|zD 8<|zJ 25 (((xs.length:Int)-0)≤12) (fun h1=>?_) fun h1=>?_
 ·
  refine zD 7<|jc (vs:=[v,zI 0,zI (xs.length:Int),.func (.func 161) ⟨[]⟩ ⟨[]⟩]) [0] (aHb ho (by omega)) ?_
  rintro aBT Y30 wN
  refine zD 2<|zR (.tuple ⟨[]⟩) [] [0] Y30 wN
 exfalso;omega
theorem ayh{v:Value}{xs:List an}{L:Cells}(ho:aw v 3 164 cS xs L)(hN:xs.length≤1):dQ zT 160 [v,.func (.func 161) ⟨[]⟩ ⟨[]⟩] ro L (fun r Y=>aw v 3 164 cS xs Y):=by
 refine zC [.l L]<|zD 3<|Fy ho<|zD 6<|je (zU (xs.length:Int)) (ady (by omega))<|jp (vs:=[zU (xs.length:Int)]) [] [] (fun aF hs hZ=>(ayj (by omega)))<|zD 1<|jc (vs:=[v,zI 0,zI (xs.length:Int),zI (abq xs.length),.func (.func 161) ⟨[]⟩ ⟨[]⟩]) [0] (aG6 ho (by omega)) ?_
 rintro aBU Y13 VW
 refine zD 1<|zR (.tuple ⟨[]⟩) [] [0] Y13 VW
theorem ajB{v:Value}{xs:List an}{L:Cells}(ho:aw v 3 164 cS xs L)(hN:xs.length≤1):dQ zT 162 [v] ro L (fun r Y=>v=r∧L=Y):=by
 refine zC [.l L]<|zD 8<|Fy ho<|zD 2<|zJ 8 ((xs.length:Int) <2) (fun h1=>?_) fun h1=>?_
 ·
  refine zD 7<|zR (v) [] [0] L ⟨rfl,rfl⟩
 exfalso;omega
theorem ZC{v:Value}{xs:List an}(hl:a8 ro v 3 cS xs)(hN:xs.length≤1):dQ zT 123 [v] ro [] (fun r Y=>aw r 3 164 cS xs Y):=by
 obtain⟨dB,mP,mO,dz,rfl,qd,gY,jV⟩:=hl
 refine zE<|zD 7<|jc (vs:=[.slice dB xs.length dz]) [] (aTV (show a8 _ _ _ _ _ from ⟨dB,mP,mO,dz,rfl,qd,gY,jV⟩) (by first|omega| (simp only[List.length_set,zM];omega))) ?_
 rintro v5 L5 ho5
 obtain⟨va5,vc5,he5⟩:=ho5.form
 subst he5
 refine zD 5<|jc (vs:=[(.slice va5 (xs).length vc5),.func (.func 161) ⟨[]⟩ ⟨[]⟩]) [0] (ayh ho5 (by omega)) ?_
 rintro rv7 Y7 ho7
 refine zD 4<|jc (vs:=[(.slice va5 (xs).length vc5)]) [0] (ajB ho7 (by omega)) ?_
 rintro _ _ ⟨rfl,rfl⟩
 refine zD 3<|zR ((.slice va5 (xs).length vc5)) [] [0] Y7 ho7
theorem MV.put{Z2:Cells}{F:List (an×Value)}{g:an→an}(h:MV Z F g){k:an}{v:Value}(hv:∀aC,Knows aC Z2→a8 aC v 3 cS [g k]):MV (Z++Z2) (mN k v F) g:=by
 have h1:∀x∈mN k v F,x=(k,v)∨x∈F:=fun x hx=>by
  unfold mN at hx
  split at hx
  ·rw[Gd] at hx
   obtain⟨i,hi⟩:=List.getElem?_of_mem hx
   rw[List.getElem?_set] at hi
   split at hi
   ·split at hi
    ·cases hi;exact .inl rfl
    cases hi
   exact .inr (zL hi)
  rcases List.mem_append.1 hx with h|h
  ·exact .inr h
  exact .inl (List.mem_singleton.1 h)
 intro aC hr x hx
 rcases h1 x hx with rfl|hx
 ·exact hv aC hr.right
 exact h aC hr.left x hx
theorem Qm{κ:Type}[DecidableEq κ]{k x:κ}{v:Value}{F:List (κ×Value)}(h:x=k∨x∈F.map (·.1)):x∈(mN k v F).map (·.1):=by
 unfold mN
 split
 ·rename_i i u hf
  have Ao:=(qS hf).2
  rw[Nat.sub_zero] at Ao
  have hs:((F.set i (k,v)).map (·.1))=F.map (·.1):=by
   rw[List.map_set]
   refine List.ext_getElem? fun j=>?_
   rw[List.getElem?_set]
   split
   ·rename_i hj;subst hj;simp[Ao,(List.getElem?_eq_some_iff.1 Ao).1,(List.getElem?_eq_some_iff.1 Ao).2]
   rfl
  rw[Gd,hs]
  rcases h with rfl|h
  ·exact List.mem_map_of_mem (f:=(·.1)) (zL Ao)
  exact h
 rw[List.map_append]
 rcases h with rfl|h
 ·exact List.mem_append_right _ (by simp)
 exact List.mem_append_left _ h
def Seen(es:Array MapEntry)(seen:List Nat)(F:List (an×Value)):Prop:=∀e∈es.toList,e∈cT es seen∨∃k,e.key=px k∧k∈F.map (·.1)
theorem Seen.start{es:Array MapEntry}{F:List (an×Value)}:Seen es [] F:=fun e he=> .inl (by rw[Ds];exact he)
theorem Seen.step{es:Array MapEntry}{F0 F:List (an×Value)}(h:Seen es seen F)(hE:tK px F0 es ck){e:MapEntry}(he:e∈cT es seen){k:an}(hk:e.key=px k){v:Value}:Seen es (seen++[e.born]) (mN k v F):=fun x hx=>by
 rcases h x hx with h1| ⟨q,h1,h2⟩
 ·rcases Vv hE he h1 with rfl|h2
  ·exact .inr ⟨k,hk,Qm (.inl rfl)⟩
  exact .inl h2
 exact .inr ⟨q,h1,Qm (.inr h2)⟩
theorem anw{a b:an}(h:px a=px b):a=b:=by
 rcases a with ⟨x,y,z⟩;rcases b with ⟨d,e,f⟩
 simp only[px,cS,Value.agg.injEq,Array.mk.injEq,List.cons.injEq,Value.int.injEq] at h
 simp[h.1.2,h.2.1.2,h.2.2.1.2]
theorem Seen.fin{es:Array MapEntry}{F0 F:List (an×Value)}(h:Seen es seen F)(hl:cT es seen=[])(hE:tK px F0 es ck){k:an}(hk:k∈F0.map (·.1)):k∈F.map (·.1):=by
 obtain⟨⟨k',v⟩,h1,rfl⟩:=List.mem_map.1 hk
 have:(px k',v)∈es.toList.map (fun e=>(e.key,e.val)):=by rw[hE.1];exact List.mem_map_of_mem (f:=fun x:an×Value=>(px x.1,x.2)) h1
 obtain⟨e,h2,h3⟩:=List.mem_map.1 this
 simp only[Prod.mk.injEq] at h3
 rcases h e h2 with h4| ⟨q,h4,h5⟩
 ·rw[hl] at h4;cases h4
 have:=anw (h3.1.symm.trans h4);subst this;exact h5
structure TP(ro:Nat→Option Obj)(r:Nat)(H:List an)(g:an→an)(es:Array MapEntry)(ck:Nat)(F:List (an×Value)):Prop where
 m:ro r=some (.map es ck)
 e:tK px F es ck
 k:F.map (·.1)=H
 v:∀x∈F,a8 ro x.2 3 cS [g x.1]
theorem Hr{a x:α}{j:Nat}(h: [a][j]?=some x):x=a∧j=0:=by
 cases j with
 |zero=>simp at h;exact⟨h.symm,rfl⟩
 |succ j=>simp at h
theorem ar1{CE:Array MapEntry}{F1:List (an×Value)}{r2 ck2:Nat}{FP:Array MapEntry}{F2:List (an×Value)}{H:List an}{g:an→an}(JV:TP ro r1 H id CE JZ F1)(hP2:TP ro r2 H g FP ck2 F2):dQ zT 196 [(.map (some r1)),(.map (some r2))] ro [] (fun r Y=>∃rm F LM Z,r= .map (some rm)∧Y=LM++Z∧kK rm px F LM∧(∀h∈H,h∈F.map (·.1))∧MV Z F g):=by
 refine zE<|zD 6<|jmk px fun Ha L11 ah0=>zD 6<|jmR JV.m fun r13=>jg 0 [.b r13 (u1 r1 JZ [])]<|zD 2<|nB<|dL [1,1,0,1,0,0] [] (fun(zz:(List Nat)×(List (an×Value))×Cells×Cells)=>[(1,(.map (some r2))),(4,(.map none)),(5,(.map (some Ha))),(13,zP r13)]) (fun(zz:(List Nat)×(List (an×Value))×Cells×Cells)=>[.b r13 (u1 r1 JZ zz.1),.l zz.2.2.1,.l zz.2.2.2]) (fun(zz:(List Nat)×(List (an×Value))×Cells×Cells)=>kK Ha px zz.2.1 zz.2.2.1∧Seen CE zz.1 zz.2.1∧MV zz.2.2.2 zz.2.1 g) (fun(zz:(List Nat)×(List (an×Value))×Cells×Cells)=>(cT CE zz.1).length) (⟨[],[],L11,[]⟩) ⟨ah0,Seen.start,fun _ _ _ h=>(by cases h)⟩ [1,2,0] ?_
 rintro⟨seen,F,LM,Z⟩ hI K1 bE rest
 dsimp only at hI
 refine zD 2<|jmN (it:=r13) (kv:=px) (seen:=seen) 0 JV.m JV.e (fun PQ v14 O9 aFN rj aon aPJ=>?_) (fun aO9=>?_)
 ·
  have hkH:PQ∈H:=by rw[←JV.k];exact List.mem_map_of_mem (f:=(·.1)) aFN
  have hvv:a8 ro v14 3 cS [PQ]:=JV.v _ aFN
  obtain⟨NK,qvb,qvo,Ct,rfl,qvk,Q3,Q1⟩:=hvv
  refine jg 0 [.b r13 (u1 r1 JZ (seen++[O9.born]))]<|zD 8<|jmE (it:=r13) 0 JV.m JV.e rj aon aPJ<|jg 0 [.b r13 (u1 r1 JZ (seen++[O9.born]))]<|zD 2<|jn fun b6=>jd 15 [0]<|nB<|dL [1,1,0,1,0,0,1,1,0,1,1,0,1,0,0] [K1] (fun(zz:Nat×Value×Cells)=>[(1,(.map (some r2))),(4,(.map none)),(5,(.map (some Ha))),(6,zP b6),(8,zz.2.1),(13,zP r13),(19,.slice NK ([PQ].length) Ct),(20,zI ([PQ].length:Int)),(21,zI (zz.1:Int))]) (fun zz=>[.l zz.2.2,.b b6 (.cells ⟨[zI PQ.h,zI PQ.n,zI PQ.l]⟩ 164 (0,0)),.b r13 (u1 r1 JZ (seen++[O9.born])),.l LM,.l Z]) (fun zz=>zz.1≤[PQ].length∧aw zz.2.1 3 164 cS ([g PQ].take zz.1) zz.2.2) (fun zz=>[PQ].length-zz.1) (⟨0,zS,[]⟩) ⟨by simp,aw.nil _ _ _⟩ (zN 0 5) ?_
  rintro⟨i,vO,LO⟩ hJ K2 lG rest
  dsimp only at hJ
  have Ub: [PQ].length=1:=rfl
  refine zD 5<|zJ 22 ((i:Int) <([PQ].length:Int)) (fun h1=>?_) fun h1=>?_
  ·
   refine zD 6 ?_
   obtain⟨mV,lT⟩:=zG ([PQ]) i
   refine fL Ct 3 Q3 lT<|jl 0 (Q1 _ _ lT)<|jn fun lV=>jd 2 [0] ?_
   obtain⟨hxe,hj0⟩:=Hr lT
   refine jd 4 [0]<|jlu (kv:=px) (F:=F2) (r:=r2) (K:=164) mV (zS) false [] [] EK (fun s he _=>⟨_,_,he _ _ (.inl hP2.m),hP2.e⟩) ?_
   obtain⟨w28,aPv,awH⟩:=YF (k:=mV) (F:=F2) (by rw[hP2.k,hxe];exact hkH)
   have hww:a8 ro w28 3 cS [g mV]:=hP2.v _ awH
   obtain⟨Ka,qwb,qwo,Ew,rfl,qwk,qwh,qwl⟩:=hww
   refine jw 28 (.slice Ka ([g mV].length) Ew) (show RS (zS) false mV F2=_ from by simp only[RS,aPv];rfl) ?_
   refine gL (sz:=3) (ps:=([g PQ].take i)) (qs:=[g mV]) (enc:=cS) (w:= .slice Ka ([g mV].length) Ew) [1] [] [] (hJ.2) (fun s he _=>⟨Ka,qwb,qwo,Ew,rfl,qwh,fun i p hp=>(qwl i p hp).ext he⟩) (fun p _=>ah rfl) (by simp only[List.length_take,List.length_cons,List.length_nil];omega) (fun v29 L29 H9=>?_)
   obtain⟨adS,adL,ain⟩:=H9.form
   subst ain
   refine zD 3<|ja ((i:Int)+1) (by omega)<|zD 2<|bF lG (⟨i+1,(.slice adS ((([g PQ].take i)++[g mV])).length adL),L29⟩) ⟨by dsimp only;omega,by have:=H9;rw[hj0] at this ⊢;rw[hxe] at this;exact this⟩ (by dsimp only;omega) [0,2,3,4,5] (Sub.refl _)
  refine jd 6 [1]<|aS 3 fun rZ r8 qM=>jcL (vs:=[vO]) [] [0] LO (fun aF hs hZ=>ZC (hJ.2.jC hZ) (by simp only[List.length_take,List.length_cons,List.length_nil];omega)) ?_
  rintro v34 L34 aQs
  refine ep qM (zN 1 5)<|aS 4 fun sL sR qL=>jmu (kv:=px) (F:=F) (r:=Ha) (K:=164) 4 PQ (v34) EK hI.1 fun Lm4 hm4=>gA qL<|zD 1<|HM bE (⟨(seen++[O9.born]),_,Lm4,Z++L34⟩) ⟨hm4,hI.2.1.step JV.e rj aon,hI.2.2.put fun aC hk=>(by have:=aQs;rw[show ([g PQ].take i)=[g PQ] from List.take_of_length_le (by simp;omega)] at this;exact this.jC hk)⟩ (HG rj) [[4],[0],[5,1]] (Sub.refl _)
 refine jg 0 [.b r13 (u1 r1 JZ seen)]<|zD 11<|zR ((.map (some Ha))) [] [1,2] (LM++Z) ⟨Ha,F,LM,Z,rfl,rfl,hI.1,fun h hh=>hI.2.1.fin aO9 JV.e (by rw[JV.k];exact hh),hI.2.2⟩
theorem af3{κ:Type}{kv:κ→Value}{F:List (κ×Value)}{es:Array MapEntry}(h:tK kv F es ck):es.toList.length=F.length:=by
 have:=congrArg List.length h.1
 simpa using this
theorem ajD{CE:Array MapEntry}{F1:List (an×Value)}{H:List an}{g:an→an}(JV:TP ro r1 H g CE JZ F1)(hn:H.length≤8)(hS:∀x∈F1,(g x.1).h=0∨(g x.1).h=1):dQ zT 195 [(.map (some r1)),zI 2] ro [] (fun r Y=>∃a n c,r= .agg ⟨[.slice a n c]⟩):=by
 refine zE<|zD 2<|jn fun b4=>zD 4<|jmS (E:=74) (z:= zS) fun AY=>jg 0 [.b AY (.cells ⟨[zS,zS]⟩ 74 (0,0))]<|zD 1<|jn fun b5=>jd 6 [0]<|jmR JV.m fun r16=>jg 0 [.b r16 (u1 r1 JZ [])]<|zD 2<|nB<|nB<|dL [1,1,0,1,0,0] [] (fun(zz:(List Nat)×Value×Cells×(List ai)×Value×Cells×(List ai))=>[(4,zP b4),(5,zP b5),(16,zP r16)]) (fun zz=>[.b r16 (u1 r1 JZ zz.1),.b AY (.cells ⟨[zz.2.1,zz.2.2.2.2.1]⟩ 74 (0,0)),.l zz.2.2.1,.l zz.2.2.2.2.2.1,.b b5 (.cells ⟨[.slice (some ⟨AY,0,none⟩) 2 2]⟩ 27 (0,0)),.b b4 (.cells ⟨[zS]⟩ 27 (0,0))]) (fun zz=>zz.2.2.2.1.length+zz.2.2.2.2.2.2.length+(cT CE zz.1).length≤8∧aw zz.2.1 2 73 cA zz.2.2.2.1 zz.2.2.1∧aw zz.2.2.2.2.1 2 73 cA zz.2.2.2.2.2.2 zz.2.2.2.2.2.1) (fun zz=>(cT CE zz.1).length) (⟨[],zS,[],[],zS,[],[]⟩) ⟨by rw[Ds,af3 JV.e];have:=congrArg List.length JV.k;simp at this ⊢;omega,aw.nil _ _ _,aw.nil _ _ _⟩ [2,4,1,0,3,5] ?_
 rintro⟨seen,w0,L0,p0,w1,L1,p1⟩ hI K1 bE rest
 dsimp only at hI
 refine zD 2<|jmN (it:=r16) (kv:=px) (seen:=seen) 0 JV.m JV.e (fun k17 v17 e17 aos FK abX aPH=>?_) (fun bb5=>?_)
 ·
  have hvv:a8 ro v17 3 cS [g k17]:=JV.v _ aos
  obtain⟨NK,qvb,qvo,Ct,rfl,qvk,Q3,Q1⟩:=hvv
  have hsg:(g k17).h=0∨(g k17).h=1:=hS _ aos
  have cU:=HG FK
  refine jg 0 [.b r16 (u1 r1 JZ (seen++[e17.born]))]<|zD 8<|jmE (it:=r16) 0 JV.m JV.e FK abX aPH<|jg 0 [.b r16 (u1 r1 JZ (seen++[e17.born]))]<|zD 10<|dL [1,1,0,1,0,0,1,1,0,1,1,0,0] [K1] (fun(zz:Nat×Value×Cells×(List ai)×Value×Cells×(List ai))=>[(4,zP b4),(5,zP b5),(16,zP r16),(21,.slice NK ([g k17].length) Ct),(22,zI ([g k17].length:Int)),(23,zI (zz.1:Int))]) (fun zz=>[.b r16 (u1 r1 JZ (seen++[e17.born])),.b AY (.cells ⟨[zz.2.1,zz.2.2.2.2.1]⟩ 74 (0,0)),.l zz.2.2.1,.l zz.2.2.2.2.2.1,.b b5 (.cells ⟨[.slice (some ⟨AY,0,none⟩) 2 2]⟩ 27 (0,0)),.b b4 (.cells ⟨[zS]⟩ 27 (0,0))]) (fun zz=>(zz.1≤1∧zz.2.2.2.1.length+zz.2.2.2.2.2.2.length+(cT CE (seen++[e17.born])).length+(1-zz.1)≤8)∧aw zz.2.1 2 73 cA zz.2.2.2.1 zz.2.2.1∧aw zz.2.2.2.2.1 2 73 cA zz.2.2.2.2.2.2 zz.2.2.2.2.2.1) (fun zz=>1-zz.1) (⟨0,w0,L0,p0,w1,L1,p1⟩) ⟨by dsimp only;omega,hI.2⟩ (zN 0 6) ?_
  rintro⟨i,w0,L0,p0,w1,L1,p1⟩ hJ K2 lG rest
  dsimp only at hJ
  have Ub: [g k17].length=1:=rfl
  refine zD 5<|zJ 24 ((i:Int) <([g k17].length:Int)) (fun h1=>?_) fun h1=>?_
  ·
   refine zD 6 ?_
   obtain⟨zc,lS⟩:=zG ([g k17]) i
   refine fL Ct 3 Q3 lS<|jl 0 (Q1 _ _ lS) ?_
   obtain⟨hxe,hi0⟩:=Hr lS;rw[←hxe] at hsg;obtain⟨xh,xn,xl⟩:=zc;dsimp only at hsg;rcases hsg with rfl|rfl
   ·
    refine jn fun b9=>jd 11 [0,5,0,5,0]<|jd 4 [2,0]<|aS 12 fun rZ r8 qM=>jn fun b39=>ep qM (zN 1 7)<|aS 13 fun sL sR qL=>gL (sz:=2) (ps:=p0) (qs:=[(⟨xn,xl⟩:ai)]) (enc:=cA) (w:= .slice (some ⟨b39,0,none⟩) 1 1) [4] [0] [(b39,.cells ⟨([(⟨xn,xl⟩:ai)].map cA).flatten⟩ 73 (0,0))] (hJ.2.1) (fun s _ hZ=>bN [(⟨xn,xl⟩:ai)] (hZ _ (.head _)) (by intro p hp;rfl)) (fun p _=>ah rfl) (by simp only[List.length_cons,List.length_nil];omega) (fun v40 L40 H6=>?_)
    obtain⟨as9,asX,axj⟩:=H6.form
    subst axj
    refine fR qL [[2],[6],[2],[6]]<|zD 1<|aS 15 fun A0 Bm Au=>jd 1 [4]<|gA Au<|zD 2<|ja ((i:Int)+1) (by omega)<|zD 2<|bF lG (⟨i+1,(.slice as9 ((p0++[(⟨xn,xl⟩:ai)])).length asX),L40,(p0++[(⟨xn,xl⟩:ai)]),w1,L1,p1⟩) ⟨by simp only[zM];omega,H6,hJ.2.2⟩ (by dsimp only;omega) [3,4,0,5,6,7] (Sub.refl _)
   refine jn fun b9=>jd 11 [0,5,0,5,0]<|jd 4 [2,0]<|aS 12 fun adl aeb hL6=>jn fun b39=>ep hL6 (zN 1 7)<|aS 13 fun adk aea OI=>gL (sz:=2) (ps:=p1) (qs:=[(⟨xn,xl⟩:ai)]) (enc:=cA) (w:= .slice (some ⟨b39,0,none⟩) 1 1) [5] [0] [(b39,.cells ⟨([(⟨xn,xl⟩:ai)].map cA).flatten⟩ 73 (0,0))] (hJ.2.2) (fun s _ hZ=>bN [(⟨xn,xl⟩:ai)] (hZ _ (.head _)) (by intro p hp;rfl)) (fun p _=>ah rfl) (by simp only[List.length_cons,List.length_nil];omega) (fun v40 L40 H6=>?_)
   obtain⟨as9,asX,axj⟩:=H6.form
   subst axj
   refine fR OI [[2],[6],[2],[6]]<|zD 1<|aS 15 fun P8 Qv OH=>jd 1 [4]<|gA OH<|zD 2<|ja ((i:Int)+1) (by omega)<|zD 2<|bF lG (⟨i+1,w0,L0,p0,(.slice as9 ((p1++[(⟨xn,xl⟩:ai)])).length asX),L40,(p1++[(⟨xn,xl⟩:ai)])⟩) ⟨by simp only[zM];omega,hJ.2.1,H6⟩ (by dsimp only;omega) [3,4,5,0,6,7] (Sub.refl _)
  refine zD 2<|bF bE (⟨(seen++[e17.born]),w0,L0,p0,w1,L1,p1⟩) ⟨by dsimp only;omega,hJ.2⟩ cU (zN 0 6) (Sub.refl _)
 refine jg 0 [.b r16 (u1 r1 JZ seen)]<|jd 14 [4]<|dL [1,1,1,0,1,0,0] [] (fun(zz:Nat×Value×Cells×(List ai)×Value×Cells×(List ai))=>[(4,zP b4),(5,zP b5),(44,.slice (some ⟨AY,0,none⟩) 2 2),(45,zI 2),(46,zI (zz.1:Int))]) (fun zz=>[.b AY (.cells ⟨[zz.2.1,zz.2.2.2.2.1]⟩ 74 (0,0)),.l zz.2.2.1,.l zz.2.2.2.2.2.1,.b b5 (.cells ⟨[.slice (some ⟨AY,0,none⟩) 2 2]⟩ 27 (0,0)),.b b4 (.cells ⟨[zS]⟩ 27 (0,0))]) (fun zz=>(zz.1≤2∧zz.2.2.2.1.length≤8∧zz.2.2.2.2.2.2.length≤8)∧aw zz.2.1 2 73 cA zz.2.2.2.1 zz.2.2.1∧aw zz.2.2.2.2.1 2 73 cA zz.2.2.2.2.2.2 zz.2.2.2.2.2.1) (fun zz=>2-zz.1) (⟨0,w0,L0,p0,w1,L1,p1⟩) ⟨by dsimp only;omega,hI.2⟩ (zN 1 5) ?_
 rintro⟨k,w0,L0,p0,w1,L1,p1⟩ hQ K9 hK9 rest
 dsimp only at hQ
 refine zD 5<|zJ 47 ((k:Int) <2) (fun h8=>?_) fun h8=>?_
 ·
  refine zD 6 ?_
  rcases(show k=0∨k=1 by omega) with hk0|hk0
  ·
   refine jw 46 (zI 0) (show Value.int .i64 (k:Int)= zI 0 by rw[hk0];rfl) ?_
   refine jd 6 [0]<|jc (vs:=[w0,.func (.func 201) ⟨[]⟩ ⟨[]⟩]) [1] (ajx hQ.2.1 (by omega)) ?_
   rintro aMy Y51 ⟨asC,awj,abR⟩
   refine zD 5 ?_
   have hle:=awj.length_eq
   exact bF hK9 (⟨1,w0,Y51,asC,w1,L1,p1⟩) ⟨by dsimp only;omega,abR,hQ.2.2⟩ (by dsimp only;omega) [1,0,2,3,4] (Sub.refl _)
  refine jw 46 (zI 1) (show Value.int .i64 (k:Int)= zI 1 by rw[hk0];rfl) ?_
  refine jd 6 [0]<|jc (vs:=[w1,.func (.func 201) ⟨[]⟩ ⟨[]⟩]) [2] (ajx hQ.2.2 (by omega)) ?_
  rintro aMy Y51 ⟨asC,awj,abR⟩
  refine zD 5 ?_
  have hle:=awj.length_eq
  exact bF hK9 (⟨2,w0,L0,p0,w1,Y51,asC⟩) ⟨by dsimp only;omega,hQ.2.1,abR⟩ (by dsimp only;omega) [1,2,0,3,4] (Sub.refl _)
 refine jd 8 [3,4]<|zR (.agg ⟨[.slice (some ⟨AY,0,none⟩) 2 2]⟩) [4] [] [] ⟨_,_,_,rfl⟩
structure Xf where
 a:Option Addr
 n:Nat
 c:Nat
 ea:Option Addr
 en:Nat
 ec:Nat
 r:Nat
abbrev aka(t:Xf):List Value:=[.slice t.a t.n t.c,.slice t.ea t.en t.ec,.map (some t.r)]
structure TrD where
 ways:List Int
 g:an→an
def aU3(ro:Nat→Option Obj)(r:Nat)(H:List an)(g:an→an):Prop:=∃es ck F,ro r=some (.map es ck)∧tK px F es ck∧(∀h∈H,h∈F.map (·.1))∧∀y∈F,a8 ro y.2 3 cS [g y.1]
def TrR(H:List an)(ro:Nat→Option Obj)(t:Xf)(x:TrD):Prop:=a8 ro (.slice t.a t.n t.c) 1 cD x.ways∧aU3 ro t.r H x.g
def TrO(H:List an)(LL:Cells)(t:Xf)(x:TrD):Prop:=∀aC,Knows aC LL→TrR H aC t x
abbrev apa(H:List an)(L:List TrD):(Nat→Option Obj)→Nat→List Value→Cells→Prop:=fun _ k vs LL=>∃x t,L[k]?=some x∧vs=[.agg ⟨aka t⟩]∧TrO H LL t x
def atn(S:List (List ai))(l:List aL)(i:Nat):TrD:=⟨[(i:Int)],match l[i]? with
 |some c=>z0 S c
 |none=>id⟩
def dw(S:List (List ai)):List (List aL)→List TrD
 | []=>[⟨[],id⟩]
 |l::_=>(List.range l.length).map (atn S l)
theorem KW{S:List (List ai)}{l:List aL}{c:aL}(h:l[i]?=some c):(dw S [l])[i]?=some ⟨[(i:Int)],z0 S c⟩:=by
 have hi:=(List.getElem?_eq_some_iff.1 h).1
 simp only[dw,List.getElem?_map,List.getElem?_range hi,Option.map_some,atn,h]
structure za(ways:List (List aL)):Prop where
 one:ways.length≤1
 ok:∀l∈ways,(1≤l.length∧l.length≤3)∧∀c∈l,j5 c
theorem aHJ{c:aL}(h:j5 c):1≤c.k∧c.k≤7:=by
 simp only[j5,List.mem_cons,List.not_mem_nil,or_false] at h
 rcases h with rfl|rfl|rfl|rfl|rfl<;>simp
theorem ar0{x:an}:∀(u:List (an×an)) (y:an),u.foldl (fun y p=>if x=p.1 then p.2 else y) y=y∨∃p∈u,u.foldl (fun y p=>if x=p.1 then p.2 else y) y=p.2
 | [],y=> .inl rfl
 |p::u,y=>by
  simp only[List.foldl_cons]
  rcases ar0 (x:=x) u (if x=p.1 then p.2 else y) with h| ⟨q,hq,h⟩
  ·rw[h]
   split
   ·exact .inr ⟨p,by simp,rfl⟩
   exact .inl rfl
  exact .inr ⟨q,by simp[hq],h⟩
theorem ayg{u:List (an×an)}{x:an}:gU u x=x∨∃p∈u,gU u x=p.2:=ar0 u x
theorem afU{S:List (List ai)}{c:aL}(hc:j5 c){x:an}(hx:x.h=0∨x.h=1):(z0 S c x).h=0∨(z0 S c x).h=1:=by
 rcases ayg (u:=ayu S c) (x:=x) with h| ⟨p,hp,h⟩
 ·rw[z0,h];exact hx
 rw[z0,h]
 simp only[j5,List.mem_cons,List.not_mem_nil,or_false] at hc
 rcases hc with rfl|rfl|rfl|rfl|rfl<;>simp[ayu,ad5,Lf,Mv,J7,m9] at hp
 ·obtain⟨_,_,_,_,_,rfl⟩:=hp;exact .inl rfl
 ·obtain⟨_,_,rfl⟩:=hp;exact .inl rfl
 ·obtain⟨_,_,_,_,_,rfl⟩:=hp;exact .inr rfl
 ·obtain⟨_,_,rfl⟩:=hp;exact .inr rfl
 obtain⟨_,_,rfl⟩:=hp;exact .inl rfl
theorem So{S:List (List ai)}(hO:fo S){x:an}(hx:x∈bI S):x.h=0∨x.h=1:=by
 obtain⟨j,l,p,h1,_,_,rfl⟩:=Gn.1 hx
 have:=hO.two
 simp only[m9];omega
theorem TP.up{r:Nat}{H:List an}{g:an→an}{es:Array MapEntry}{F:List (an×Value)}(h:TP ro r H g es ck F)(hs:Sub ro aC):TP aC r H g es ck F:=⟨hs _ _ h.m,h.e,h.k,fun x hx=>(h.v x hx).up hs⟩
theorem aTT{v:Value}{S:List (List ai)}{c:aL}(hc:j5 c)(hS:cQ ro v S)(hO:fo S):dQ zT 194 [.agg ⟨[v]⟩,.agg ⟨iu c⟩] ro [] (fun r Y=>∃rm F LM Z,r= .tuple ⟨[.map (some rm),zI 0]⟩∧Y=LM++Z∧kK rm px F LM∧F.map (·.1)=bI S∧MV Z F (z0 S c)):=by
 simp only[j5,List.mem_cons,List.not_mem_nil,or_false] at hc
 rcases hc with rfl|rfl|rfl|rfl|rfl
 ·exact aHj hS hO
 ·exact aHi hS hO
 ·exact aHh hS hO
 ·exact aHg hS hO
 exact aHf hS hO
def KO(ro:Nat→Option Obj)(b:Nat)(S:List (List ai))(ways:List (List aL)):Prop:=∃vS vT vH fa fc,ro b=some (.cells ⟨[vS,vT,.slice fa 0 fc,vH]⟩ 212 (0,0))∧cQ ro vS S∧mz ro vT ways∧a8 ro vH 3 cS (bI S)
theorem KO.up{S:List (List ai)}(h:KO ro b S ways)(hs:Sub ro aC):KO aC b S ways:=by
 obtain⟨vS,vT,vH,fa,fc,h1,h2,h3,h4⟩:=h
 exact⟨vS,vT,vH,fa,fc,hs _ _ h1,h2.up hs,h3.up hs,h4.up hs⟩
theorem aym{fa:Option Addr}{S:List (List ai)}(hS:cQ ro vS S)(hO:fo S)(hT:mz ro vT ways)(hW:za ways):dQ zT 157 [.agg ⟨[vS,vT,.slice fa 0 fc]⟩] ro [] (fun r Y=>∃b vH LH,r= .tuple ⟨[zP b,zI 0]⟩∧Y=(b,.cells ⟨[vS,vT,.slice fa 0 fc,vH]⟩ 212 (0,0))::LH∧aw vH 3 164 cS (bI S) LH):=by
 have xU:=hS
 obtain⟨fD,hs,ei⟩:=hS
 obtain⟨kg,PO,PM,jo,rfl,PN,Gg,Gf⟩:=hs
 obtain⟨fK,ht,dY⟩:=id hT
 obtain⟨eB,yM,yK,dH,rfl,yL,qt,qp⟩:=ht
 have Gs:=ei.len
 have DE:=dY.len
 have Kt:=hO.two
 have BN:=hW.one
 have Hb:∀(i:Nat) (p:bU),([]:List bU)[i]?=some p→cb ⟨ro,[]⟩ 0 (0+i*6) 6 (jF p):=fun _ _ h=>lR h
 refine zE<|zD 2<|jn fun b1=>jd 8 [0]<|jp (vs:=[.agg ⟨[.slice kg fD.length jo]⟩]) [] [] (fun aF hs hZ=>ayl (xU.up hs) hO)<|jd 17 [0]<|zJ 21 ((fK.length:Int)>3) (fun h1=>?_) fun h1=>?_
 ·
  exfalso;omega
 refine jd 11 [0]<|dL [1,1,1,0,1,0,0] [] (fun(zz:Nat)=>[(1,zP b1),(23,.slice eB fK.length dH),(24,zI (fK.length:Int)),(25,zI (zz:Int))]) (fun zz=>[.b b1 (.cells ⟨[.slice kg fD.length jo,.slice eB fK.length dH,.slice fa 0 fc]⟩ 31 (0,0))]) (fun zz=>zz≤fK.length) (fun zz=>fK.length-zz) 0 (by omega) [0] ?_
 rintro k hI K1 bE rest
 refine zD 5<|zJ 26 ((k:Int) <(fK.length:Int)) (fun h2=>?_) fun h2=>?_
 ·
  refine zD 6 ?_
  obtain⟨x27,Kr⟩:=zG fK k
  refine fL dH 1 qt Kr ?_
  obtain⟨l28,aQS,h28⟩:=dY.get Kr
  obtain awH:=hW.ok _ (zL aQS)
  obtain⟨aCH,bba,ba8,aum,rfl,ba9,aNo,aNn⟩:=h28
  refine jl 0 (qp _ _ Kr)<|jn fun b6=>jd 10 [0,0]<|zJ 32 ((l28.length:Int)=0) (fun h3=>?_) fun h3=>?_
  ·
   exfalso;omega
  refine jd 10 [0]<|zJ 36 ((l28.length:Int)>3) (fun h4=>?_) fun h4=>?_
  ·
   exfalso;omega
  refine jd 10 [0]<|dL [1,1,1,0,1,0,0,1,1,0,0,1,1,1,1,0,0] [K1] (fun(zz:Nat)=>[(1,zP b1),(23,.slice eB fK.length dH),(24,zI (fK.length:Int)),(25,zI (k:Int)),(38,.slice aCH l28.length aum),(39,zI (l28.length:Int)),(40,zI (zz:Int))]) (fun zz=>[.b b6 (.cells ⟨[.slice aCH l28.length aum]⟩ 81 (0,0)),.b b1 (.cells ⟨[.slice kg fD.length jo,.slice eB fK.length dH,.slice fa 0 fc]⟩ 31 (0,0))]) (fun zz=>zz≤l28.length) (fun zz=>l28.length-zz) 0 (by omega) [0,1] ?_
  rintro i hJ K2 lG rest
  refine zD 5<|zJ 41 ((i:Int) <(l28.length:Int)) (fun h5=>?_) fun h5=>?_
  ·
   refine zD 6 ?_
   obtain⟨x42,VI⟩:=zG l28 i
   refine fL aum 7 aNo VI<|jl 0 (aNn _ _ VI)<|jn fun b8=>jd 3 [0] ?_
   have Zu:=aHJ (awH.2 _ (zL VI))
   refine jd 3 [0]<|jp (vs:=[zI x42.k,zI 1,zI 7]) [] [] (fun aF hs hZ=>BU)<|zD 2<|js 47 (!(gT x42.k 1 7)) (fun h6=>?_) (fun h6=>?_)
   ·
    try simp only[zB] at h6
    exfalso;simp only[gT,Bool.and_eq_false_iff,decide_eq_false_iff_not] at h6;omega
   try simp only[zB] at h6
   refine zD 3<|ja ((i:Int)+1) (by omega)<|zD 2<|bF lG (i+1) (by omega) (by omega) [1,2] (Sub.refl _)
  refine zD 3<|ja ((k:Int)+1) (by omega)<|zD 2<|bF bE (k+1) (by omega) (by omega) [1] (Sub.refl _)
 refine jd 17 [0,0,0]<|aS 3 fun rZ r8 qM=>jc (vs:=[.agg ⟨[.slice kg fD.length jo]⟩]) [] (ZD xU hO) ?_
 rintro v57 L57 aoa
 obtain⟨amd,amb,ail⟩:=aoa.form
 subst ail
 refine ep qM [1]<|zD 1<|aS 5 fun sL sR qL=>jn fun b59=>ep qL [1,2]<|jd 11 [2]<|dL [1,1,1,1,1,1,0,1,0,0] [] (fun(zz:Nat)=>[(1,zP b1),(9,zP b59),(61,.slice fa 0 fc),(62,zI 0),(63,zI 0)]) (fun zz=>[.b b59 (.cells ⟨[.slice kg fD.length jo,.slice eB fK.length dH,.slice fa 0 fc,(.slice amd (bI S).length amb)]⟩ 212 (0,0)),.l L57,.b b1 (.cells ⟨[.slice kg fD.length jo,.slice eB fK.length dH,.slice fa 0 fc]⟩ 31 (0,0))]) (fun zz=>True) (fun zz=>zz) 0 trivial [0,1,2] ?_
 rintro z hQ K5 hK5 rest
 refine zD 14<|zR (.tuple ⟨[zP b59,zI 0]⟩) [] [0,1] ((b59,.cells ⟨[.slice kg fD.length jo,.slice eB fK.length dH,.slice fa 0 fc,(.slice amd (bI S).length amb)]⟩ 212 (0,0))::L57) ⟨_,_,_,rfl,rfl,aoa⟩
structure acR(ro:Nat→Option Obj)(bl b b1 b2 b3:Nat):Prop where
 t:ro b1=some (.cells ⟨[zP b]⟩ 207 (0,0))
 y:ro b2=some (.cells ⟨[.func (.yield bl) #[] #[]]⟩ 283 (0,0))
 g:ro b3=some (.cells ⟨[.func (.func 192) ⟨[]⟩ ⟨[zP b1,zP b2,zP b3]⟩]⟩ 283 (0,0))
theorem acR.up(h:acR ro bl b b1 b2 b3)(hs:Sub ro aC):acR aC bl b b1 b2 b3:=⟨hs _ _ h.t,hs _ _ h.y,hs _ _ h.g⟩
theorem aHd{t:Xf}{S:List (List ai)}(JU:KO ro b S ways):dv zT 193 [zP b,.agg ⟨[.slice t.a t.n t.c,.slice t.ea t.en t.ec,(.map (some t.r))]⟩] ro (.bool true):=by
 obtain⟨vS,vT,vH,fa,fc,gb,hS,hT,hHs⟩:=JU
 have xU:=hS
 obtain⟨fD,hs,ei⟩:=hS
 obtain⟨kg,PO,PM,jo,rfl,PN,Gg,Gf⟩:=hs
 obtain⟨fK,ht,dY⟩:=id hT
 obtain⟨eB,yM,yK,dH,rfl,yL,qt,qp⟩:=ht
 have Gs:=ei.len
 have DE:=dY.len
 have Hb:∀(i:Nat) (p:bU),([]:List bU)[i]?=some p→cb ⟨ro,[]⟩ 0 (0+i*6) 6 (jF p):=fun _ _ h=>lR h
 refine zE<|zD 2<|jn fun b3=>zD 9<|jl (b:=b) (off:=0) (m:=4) (vs:=[.slice kg fD.length jo,.slice eB fK.length dH,.slice fa 0 fc,vH]) 2 ⟨_,_,_,.inl gb,rfl⟩<|zD 4<|dL [1,0,1,0,0] [] (fun(zz:Nat)=>[(3,zP b3),(11,.slice fa 0 fc),(12,zI 0),(13,zI 0)]) (fun zz=>[.b b3 (.cells ⟨[.slice t.a t.n t.c,.slice t.ea t.en t.ec,(.map (some t.r))]⟩ 216 (0,0))]) (fun zz=>True) (fun zz=>zz) 0 trivial [0] ?_
 rintro z hI K1 bE rest
 refine zD 12<|zX (.bool true) ⟨rfl,rfl⟩
theorem ajw:dQ zT 158 [zP b] ro [] (fun r Y=>∃b1,r= .func (.func 191) ⟨[]⟩ ⟨[zP b1]⟩∧Y=[(b1,.cells ⟨[zP b]⟩ 207 (0,0))]):=by
 refine zE<|zD 2<|jn fun b1=>zD 8<|zR (.func (.func 191) ⟨[]⟩ ⟨[zP b1]⟩) [] [0] [(b1,.cells ⟨[zP b]⟩ 207 (0,0))] ⟨_,rfl,rfl⟩
theorem ajy{S:List (List ai)}{L:List TrD}{Inv:Nat→Cells→Prop}{t:Xf}{x:TrD}{LL:Cells}(JU:KO ro b S ways)(hC:acR ro bl b b1 b2 b3)(hn:t.n=ways.length)(hx:L[k]?=some x) (hR:TrO (bI S) LL t x) (hB:Inv k B) (hy:YOK zT bl ro L.length (apa (bI S) L) Inv Stop):dQ zT 192 [.agg ⟨[.slice t.a t.n t.c,.slice t.ea t.en t.ec,(.map (some t.r))]⟩,zP b1,zP b2,zP b3] ro (LL++B) (fun r Y=>∃c,r= .bool c∧(c=true→Inv (k+1) Y)∧(c=false→Stop Y)):=by
 have aoF:=JU
 obtain⟨vS,vT,vH,fa,fc,gb,hS,hT,hHs⟩:=JU
 have xU:=hS
 obtain⟨fD,hs,ei⟩:=hS
 obtain⟨kg,PO,PM,jo,rfl,PN,Gg,Gf⟩:=hs
 obtain⟨fK,ht,dY⟩:=id hT
 obtain⟨eB,yM,yK,dH,rfl,yL,qt,qp⟩:=ht
 have Gs:=ei.len
 have DE:=dY.len
 have Hb:∀(i:Nat) (p:bU),([]:List bU)[i]?=some p→cb ⟨ro,[]⟩ 0 (0+i*6) 6 (jF p):=fun _ _ h=>lR h
 refine zC [.l LL,.l B]<|zD 2<|jn fun b4=>jd 13 [0]<|jl (b:=b1) (off:=0) (m:=1) (vs:=[zP b]) 0 ⟨_,_,_,.inl hC.t,rfl⟩<|zD 3<|jl (b:=b) (off:=0) (m:=4) (vs:=[.slice kg fD.length jo,.slice eB fK.length dH,.slice fa 0 fc,vH]) 1 ⟨_,_,_,.inl gb,rfl⟩<|zD 3<|zJ 21 ((t.n:Int)=(fK.length:Int)) (fun h1=>?_) fun h1=>?_
 ·
  refine zD 3<|jl (b:=b1) (off:=0) (m:=1) (vs:=[zP b]) 0 ⟨_,_,_,.inl hC.t,rfl⟩<|jd 1 [0]<|jp (vs:=[zP b,.agg ⟨[.slice t.a t.n t.c,.slice t.ea t.en t.ec,(.map (some t.r))]⟩]) [] [] (fun aF hs hZ=>aHd (t:=t) (aoF.up hs))<|zD 2<|jl (b:=b2) (off:=0) (m:=1) (vs:=[(.func (.yield bl) #[] #[])]) 0 ⟨_,_,_,.inl hC.y,rfl⟩<|jd 1 [0]<|jyc [1,2] (hy k [.agg ⟨[.slice t.a t.n t.c,.slice t.ea t.en t.ec,(.map (some t.r))]⟩] LL B ro (List.getElem?_eq_some_iff.1 hx).1 ⟨x,t,hx,rfl,hR⟩ hB (Sub.refl _)) (Sub.refl _) ?_
  intro v29 Y29 aPj
  obtain⟨c29,rfl,aR3,aRR⟩:=yb aPj
  refine zD 4<|zR (.bool c29) [] [0] Y29 ⟨_,rfl,aR3,aRR⟩
 exfalso;omega
theorem aTP{S:List (List ai)}{l:List aL}{Inv:Nat→Cells→Prop}{ea:Option Addr}{r0:Nat}{es0:Array MapEntry}{F0:List (an×Value)}(JU:KO ro b S [l])(hO:fo S)(hW:za [l])(hC:acR ro bl b b1 b2 b3)(hE:∀aC,Knows aC LE→cQ aC (.slice ea en ec) S)(hE0:tK px F0 es0 ck0)(hk0:F0.map (·.1)=bI S)(hM0:MV Z F0 id)(hB:Inv 0 B)(hy:YOK zT bl ro (dw S [l]).length (apa (bI S) (dw S [l])) Inv Stop):dQ zT 192 [.agg ⟨[zS,.slice ea en ec,(.map (some r0))]⟩,zP b1,zP b2,zP b3] ro (LE++(r0,.map es0 ck0)::(Z++B)) (fun r Y=>∃c,r= .bool c∧(c=true→Inv l.length Y)∧(c=false→Stop Y)):=by
 have aoF:=JU
 obtain⟨vS,vT,vH,fa,fc,gb,hS,hT,hHs⟩:=JU
 have xU:=hS
 obtain⟨fD,hs,ei⟩:=hS
 obtain⟨w1,w2,rfl⟩:=qk (ei.len.trans hO.two)
 obtain⟨kg,PO,PM,jo,rfl,PN,Gg,Gf⟩:=hs
 obtain⟨fK,ht,dY⟩:=id hT
 obtain⟨eB,yM,yK,dH,rfl,yL,qt,qp⟩:=ht
 have DE:=dY.len
 have Hb:∀(i:Nat) (p:bU),([]:List bU)[i]?=some p→cb ⟨ro,[]⟩ 0 (0+i*6) 6 (jF p):=fun _ _ h=>lR h
 refine zC [.l LE,.b r0 (.map es0 ck0),.l Z,.l B]<|zD 2<|jn fun b4=>zD 1<|jf [1,2,3] (LE++((r0,.map es0 ck0)::Z)) (fun yt bL iJ=>?_)
 have hE1:=hE _ (Knows.left iJ)
 have JV:TP yt r0 (bI S) id es0 ck0 F0:=⟨Knows.right iJ _ (.head _),hE0,hk0,hM0 _ (Knows.tail (Knows.right iJ))⟩
 refine jd 12 [0]<|jl (b:=b1) (off:=0) (m:=1) (vs:=[zP b]) 0 ⟨_,_,_,.inl (bL _ _ hC.t),rfl⟩<|zD 3<|jl (b:=b) (off:=0) (m:=4) (vs:=[.slice kg 2 jo,.slice eB fK.length dH,.slice fa 0 fc,vH]) 1 ⟨_,_,_,.inl (bL _ _ gb),rfl⟩<|zD 3<|zJ 21 (0=(fK.length:Int)) (fun h4=>?_) fun h4=>?_
 ·
  exfalso;simp at DE;omega
 refine zD 4 ?_
 have Ua:fK.length=1:=DE
 refine zD 1<|jl (b:=b1) (off:=0) (m:=1) (vs:=[zP b]) 0 ⟨_,_,_,.inl (bL _ _ hC.t),rfl⟩<|zD 3<|jl (b:=b) (off:=0) (m:=4) (vs:=[.slice kg 2 jo,.slice eB fK.length dH,.slice fa 0 fc,vH]) 1 ⟨_,_,_,.inl (bL _ _ gb),rfl⟩<|zD 1 ?_
 obtain⟨x37,abI⟩:=zG fK 0
 refine fL dH 1 qt abI<|zD 1 ?_
 obtain⟨l39,aFs,h39⟩:=dY.get abI
 obtain aQL:=hW.ok _ (zL aFs)
 obtain aim:l39=l:=Option.some.inj (aFs.symm.trans rfl)
 obtain⟨aNl,ba4,ba2,aCD,rfl,ba3,aNk,aNj⟩:=h39
 refine jl 0 ((qp _ _ abI).ext (uD bL))<|zD 4<|dL [1,1,1,0,1,0,0] [] (fun(zz:Nat×Cells)=>[(1,zP b1),(3,zP b3),(4,zP b4),(39,.slice aNl l39.length aCD),(40,zI (l39.length:Int)),(41,zI (zz.1:Int))]) (fun zz=>[.l zz.2,.b b4 (.cells ⟨[zS,.slice ea en ec,(.map (some r0))]⟩ 216 (0,0))]) (fun zz=>zz.1≤l39.length∧Inv zz.1 zz.2) (fun zz=>l39.length-zz.1) (⟨0,B⟩) ⟨by dsimp only;omega,hB⟩ [1,0] ?_
 rintro⟨i,B⟩ hI K1 bE rest
 dsimp only at hI
 refine zD 5<|zJ 42 ((i:Int) <(l39.length:Int)) (fun h5=>?_) fun h5=>?_
 ·
  refine zD 7 ?_
  obtain⟨Xs,BJ⟩:=zG l39 i
  refine fL aCD 7 aNk BJ<|jl 0 ((aNj _ _ BJ).ext (uD bL))<|jn fun b8=>jd 4 [0] ?_
  have hco:=aQL.2 _ (zL BJ)
  refine jd 4 [2,0]<|jc (vs:=[.agg ⟨[.slice ea en ec]⟩,.agg ⟨[zI Xs.k,zI Xs.st,zI Xs.ot,zI Xs.fn,zI Xs.fl,zI Xs.tn,zI Xs.tl]⟩]) [] (aTT (c:=Xs) hco (hE1.up (Sub.refl _)) hO) ?_
  rintro _ _ ⟨r9,F9,LM9,Z9,rfl,rfl,hm9,hk9,hM9⟩
  obtain⟨es9,ck9,rfl,hE9⟩:=hm9
  refine jg 0 [.b r9 (.map es9 ck9),.l Z9]<|zD 5<|jf [0,1] ((r9,.map es9 ck9)::Z9) (fun ro8 Ah hk7=>?_)
  have hP2:TP ro8 r9 (bI S) (z0 S Xs) es9 ck9 F9:=⟨hk7 _ (.head _),hE9,hk9,hM9 _ (Knows.tail hk7)⟩
  refine zD 11<|jl (b:=b3) (off:=0) (m:=1) (vs:=[.func (.func 192) ⟨[]⟩ ⟨[zP b1,zP b2,zP b3]⟩]) 0 ⟨_,_,_,.inl (Ah _ _ (bL _ _ hC.g)),rfl⟩<|jd 4 [2]<|jl (b:=b1) (off:=0) (m:=1) (vs:=[zP b]) 0 ⟨_,_,_,.inl (Ah _ _ (bL _ _ hC.t)),rfl⟩<|zD 4<|jl (b:=b) (off:=0) (m:=4) (vs:=[.slice kg 2 jo,.slice eB fK.length dH,.slice fa 0 fc,vH]) 0 ⟨_,_,_,.inl (Ah _ _ (bL _ _ gb)),rfl⟩<|jd 4 [2]<|Gm [3,5] ⟨fun z2 t3 qL=>?_,fun z5 t6 OI=>?_,trivial⟩
  ·
   refine jc (vs:=[zS]) [] (aHk (a8.nil _ _ _ _ _) (by simp)) ?_
   rintro v58 L58 ahP
   obtain⟨Ux,Ur,Ik⟩:=ahP.form
   subst Ik
   refine ep qL [1,2,3]<|aS 5 fun P8 Qv OH=>jn fun b60=>ep OH (zN 1 4)<|aS 6 fun Ni Nt KD=>gL (sz:=1) (ps:=([]:List Int)) (qs:=[(i:Int)]) (enc:=cD) (w:= .slice (some ⟨b60,0,none⟩) 1 1) [1] [0] [(b60,.cells ⟨([(i:Int)].map cD).flatten⟩ 3 (0,0))] (ahP) (fun s _ hZ=>bN [(i:Int)] (hZ _ (.head _)) (by intro p hp;rfl)) (fun p _=>ah rfl) (by simp only[List.length_cons,List.length_nil];omega) (fun v61 L61 H3=>?_)
   obtain⟨Uw,Uq,aik⟩:=H3.form
   subst aik
   refine fR KD [[4],[],[],[]]<|aS 15 fun yG yI qN=>jc (vs:=[(.map (some r9)),zI 2]) [] (ajD (hP2.up (Sub.refl _)) (uz hO) (fun x hx=>afU hco (So hO (by rw[←hk9];exact List.mem_map_of_mem (f:=(·.1)) hx)))) ?_
   rintro _ L70 ⟨a70,n70,c70,rfl⟩
   refine ep qN (zN 1 5)<|aS 19 fun Eh Eo wQ=>jc (vs:=[(.map (some r0)),(.map (some r9))]) [] (ar1 (JV.up Ah) (hP2.up (Sub.refl _))) ?_
   rintro _ _ ⟨r74,F74,aU8,Z74,rfl,rfl,awG,awZ,axP⟩
   obtain⟨O6,Ph,rfl,ax4⟩:=awG
   refine jg 0 [.b r74 (.map O6 Ph),.l Z74]<|ep wQ (zN 2 6)<|zD 1<|aS 21 fun GC GS wP=>jc (vs:=[.agg ⟨[(.slice Uw ((([]:List Int)++[(i:Int)])).length Uq),.slice a70 n70 c70,(.map (some r74))]⟩,zP b1,zP b2,zP b3]) [3,0,1,6] ((show dQ _ _ _ _ (L61++(r74,.map O6 Ph)::(Z74++B)) _ from by have:=ajy (t:=⟨Uw,((([]:List Int)++[(i:Int)])).length,Uq,a70,n70,c70,r74⟩) (LL:=L61++(r74,.map O6 Ph)::Z74) (aoF.up (bL.trans Ah)) (hC.up (bL.trans Ah)) rfl (KW (by rw[←aim];exact BJ)) (fun aC hk=>⟨by simpa using H3.jC (Knows.left hk),O6,Ph,F74,(Knows.right hk) _ (.head _),ax4,awZ,fun y hy=>axP aC (Knows.tail (Knows.right hk)) y hy⟩) hI.2 (hy.up (bL.trans Ah));rwa[List.append_assoc,List.cons_append] at this)) ?_
   rintro _ Y76 ⟨c76,rfl,axy,axt⟩
   refine fR wP [[],[]]<|zD 2<|js 77 (!c76) (fun Ix=>?_) (fun Ix=>?_)
   ·
    try simp only[zB] at Ix
    refine zD 6<|aI q0.a.a (.bool false) [] [0] Y76 (bL.trans Ah) ⟨_,_,rfl,rfl,_,rfl,nofun,fun _=>axt (by simp_all)⟩
   try simp only[zB] at Ix
   refine zD 3<|ja ((i:Int)+1) (by omega)<|zD 2<|bF bE (⟨i+1,Y76⟩) ⟨by dsimp only;omega,axy (by simp_all)⟩ (by dsimp only;omega) [0,4] Ah
  refine jn fun b60=>ep OI [1,2,3]<|aS 3 fun Xq XF DL=>jc (vs:=[zS]) [] (aHk (a8.nil _ _ _ _ _) (by simp)) ?_
  rintro v58 L58 ahP
  obtain⟨Ux,Ur,Ik⟩:=ahP.form
  subst Ik
  refine ep DL (zN 1 4)<|aS 6 fun ap6 aqt aiY=>gL (sz:=1) (ps:=([]:List Int)) (qs:=[(i:Int)]) (enc:=cD) (w:= .slice (some ⟨b60,0,none⟩) 1 1) [0] [1] [(b60,.cells ⟨([(i:Int)].map cD).flatten⟩ 3 (0,0))] (ahP) (fun s _ hZ=>bN [(i:Int)] (hZ _ (.head _)) (by intro p hp;rfl)) (fun p _=>ah rfl) (by simp only[List.length_cons,List.length_nil];omega) (fun v61 L61 H3=>?_)
  obtain⟨Uw,Uq,aik⟩:=H3.form
  subst aik
  refine fR aiY [[4],[],[],[]]<|aS 15 fun aVF aV2 aiX=>jc (vs:=[(.map (some r9)),zI 2]) [] (ajD (hP2.up (Sub.refl _)) (uz hO) (fun x hx=>afU hco (So hO (by rw[←hk9];exact List.mem_map_of_mem (f:=(·.1)) hx)))) ?_
  rintro _ L70 ⟨a70,n70,c70,rfl⟩
  refine ep aiX (zN 1 5)<|aS 19 fun ap5 aqs FM=>jc (vs:=[(.map (some r0)),(.map (some r9))]) [] (ar1 (JV.up Ah) (hP2.up (Sub.refl _))) ?_
  rintro _ _ ⟨r74,F74,aU8,Z74,rfl,rfl,awG,awZ,axP⟩
  obtain⟨O6,Ph,rfl,ax4⟩:=awG
  refine jg 0 [.b r74 (.map O6 Ph),.l Z74]<|ep FM (zN 2 6)<|zD 1<|aS 21 fun Xp XE DK=>jc (vs:=[.agg ⟨[(.slice Uw ((([]:List Int)++[(i:Int)])).length Uq),.slice a70 n70 c70,(.map (some r74))]⟩,zP b1,zP b2,zP b3]) [3,0,1,6] ((show dQ _ _ _ _ (L61++(r74,.map O6 Ph)::(Z74++B)) _ from by have:=ajy (t:=⟨Uw,((([]:List Int)++[(i:Int)])).length,Uq,a70,n70,c70,r74⟩) (LL:=L61++(r74,.map O6 Ph)::Z74) (aoF.up (bL.trans Ah)) (hC.up (bL.trans Ah)) rfl (KW (by rw[←aim];exact BJ)) (fun aC hk=>⟨by simpa using H3.jC (Knows.left hk),O6,Ph,F74,(Knows.right hk) _ (.head _),ax4,awZ,fun y hy=>axP aC (Knows.tail (Knows.right hk)) y hy⟩) hI.2 (hy.up (bL.trans Ah));rwa[List.append_assoc,List.cons_append] at this)) ?_
  rintro _ Y76 ⟨c76,rfl,axy,axt⟩
  refine fR DK [[],[]]<|zD 2<|js 77 (!c76) (fun MK=>?_) (fun MK=>?_)
  ·
   try simp only[zB] at MK
   refine zD 6<|aI q0.a.a (.bool false) [] [0] Y76 (bL.trans Ah) ⟨_,_,rfl,rfl,_,rfl,nofun,fun _=>axt (by simp_all)⟩
  try simp only[zB] at MK
  refine zD 3<|ja ((i:Int)+1) (by omega)<|zD 2<|bF bE (⟨i+1,Y76⟩) ⟨by dsimp only;omega,axy (by simp_all)⟩ (by dsimp only;omega) [0,4] Ah
 refine zD 7<|aI q0.a (.bool true) [] [0] B bL ⟨_,_,rfl,rfl,_,rfl,(fun _=>by have:=hI.2;rwa[show i=l.length by rw[←aim];omega] at this),nofun⟩
theorem aHc{S:List (List ai)}{Inv:Nat→Cells→Prop}{ea:Option Addr}{r0:Nat}{es0:Array MapEntry}{F0:List (an×Value)}(JU:KO ro b S ways)(hO:fo S)(hW:za ways)(hC:acR ro bl b b1 b2 b3)(hE:∀aC,Knows aC LE→cQ aC (.slice ea en ec) S)(hE0:tK px F0 es0 ck0)(hk0:F0.map (·.1)=bI S)(hM0:MV Z F0 id)(hB:Inv 0 B)(hy:YOK zT bl ro (dw S ways).length (apa (bI S) (dw S ways)) Inv Stop):
 dQ zT 192 [.agg ⟨[zS,.slice ea en ec,.map (some r0)]⟩,zP b1,zP b2,zP b3] ro (LE++(r0,.map es0 ck0)::(Z++B)) (fun r Y=>∃c,r= .bool c∧(c=true→Inv (dw S ways).length Y)∧(c=false→Stop Y)):=by
 match ways,hW with
 | [],_=>
  have:=ajy (t:=⟨none,0,0,ea,en,ec,r0⟩) (x:=⟨[],id⟩) (k:=0) (LL:=LE++(r0,.map es0 ck0)::Z) JU hC rfl rfl (fun aC hk=>⟨a8.nil _ _ _ _ _,es0,ck0,F0,(Knows.right hk) _ (.head _),hE0,fun h hh=>by rw[hk0];exact hh,hM0 _ (Knows.tail (Knows.right hk))⟩) hB hy
  rwa[List.append_assoc,List.cons_append] at this
 | [l],hW=>
  refine(aTP JU hO hW hC hE hE0 hk0 hM0 hB hy).mono fun _ _ ⟨c,h1,h2,h3⟩=>⟨c,h1,fun h=>?_,h3⟩
  rw[show (dw S [l]).length=l.length by simp[dw]]
  exact h2 h
 |_::_::_,hW=>exact absurd hW.one (by simp)
theorem aca{S:List (List ai)}(g1:ro b1=some (.cells ⟨[zP b]⟩ 207 (0,0)))(JU:KO ro b S ways)(hO:fo S)(hW:za ways):ItX zT 191 [] [zP b1] ro [] (dw S ways).length (apa (bI S) (dw S ways)) (fun Z=>Z=[]):=by
 intro bl aF Inv Stop hs hy B hB
 replace g1:=hs _ _ g1
 replace JU:=JU.up hs
 have aSI:=JU
 obtain⟨vS,vT,vH,fa,fc,gb,hS,hT,hHs⟩:=JU
 have xU:=hS
 obtain⟨fD,oC,ei⟩:=hS
 obtain⟨amG,bay,bau,amF,rfl,baw,bax,bav⟩:=oC
 obtain⟨fK,ht,dY⟩:=id hT
 obtain⟨eB,yM,yK,dH,rfl,yL,qt,qp⟩:=ht
 have Hb:∀(i:Nat) (p:bU),([]:List bU)[i]?=some p→cb ⟨aF,[]⟩ 0 (0+i*6) 6 (jF p):=fun _ _ h=>lR h
 refine zC [.l B]<|zD 2<|jn fun b2=>zD 3<|jn fun b3=>jd 5 [0]<|jf [1,0] ((b2,.cells ⟨[(.func (.yield bl) #[] #[])]⟩ 283 (0,0))::[(b3,.cells ⟨[.func (.func 192) ⟨[]⟩ ⟨[zP b1,zP b2,zP b3]⟩]⟩ 283 (0,0))]) fun yt bL iJ=>zD 2<|jl (b:=b3) (off:=0) (m:=1) (vs:=[.func (.func 192) ⟨[]⟩ ⟨[zP b1,zP b2,zP b3]⟩]) 0 ⟨_,_,_,.inl (iJ _ (.tail _ (.head _))),rfl⟩<|jl (b:=b1) (off:=0) (m:=1) (vs:=[zP b]) 0 ⟨_,_,_,.inl (bL _ _ g1),rfl⟩<|zD 3<|jl (b:=b) (off:=0) (m:=4) (vs:=[.slice amG fD.length amF,.slice eB fK.length dH,.slice fa 0 fc,vH]) 0 ⟨_,_,_,.inl (bL _ _ gb),rfl⟩<|jl (b:=b1) (off:=0) (m:=1) (vs:=[zP b]) 0 ⟨_,_,_,.inl (bL _ _ g1),rfl⟩<|zD 3<|jl (b:=b) (off:=0) (m:=4) (vs:=[.slice amG fD.length amF,.slice eB fK.length dH,.slice fa 0 fc,vH]) 0 ⟨_,_,_,.inl (bL _ _ gb),rfl⟩<|aS 6 fun E5 E9 Cy=>jc (vs:=[.agg ⟨[.slice amG fD.length amF]⟩]) [] (ao1 (xU.up bL) hO) ?_
 rintro _ L11 ⟨a11,n11,c11,rfl,aTj⟩
 refine ep Cy [1]<|aS 12 fun A1 Bn Av=>jc (vs:=[.agg ⟨[.slice amG fD.length amF]⟩]) [] (MO (xU.up bL) hO) ?_
 rintro _ _ ⟨r17,F17,bfM,Z17,rfl,rfl,ahZ,abX,aST⟩
 obtain⟨aT5,aUh,rfl,aTi⟩:=ahZ
 refine jg 0 [.b r17 (.map aT5 aUh),.l Z17]<|ep Av [2,3]<|zD 1<|aS 14 fun rZ r8 qM=>jc (vs:=[.agg ⟨[zS,.slice a11 n11 c11,(.map (some r17))]⟩,zP b1,zP b2,zP b3]) [2,0,1,3] (aHc (aSI.up bL) hO hW ⟨(bL _ _ g1),iJ _ (.head _),iJ _ (.tail _ (.head _))⟩ aTj aTi abX aST hB (YOK.up hy bL)) ?_
 rintro _ Y19 ⟨c19,rfl,aR6,aRU⟩
 refine fR qM [[],[]]<|zD 1<|aI q0.a (.tuple ⟨[]⟩) [] [0] Y19 bL ⟨_,_,rfl,rfl,[],Y19,rfl,rfl,by cases c19 with|true=>exact .inl (aR6 rfl)|false=>exact .inr (aRU rfl)⟩
theorem GQ{S:List (List ai)}(hW:za ways):(dw S ways).length≤3:=by
 match ways,hW with
 | [],_=>simp[dw]
 |l::_,hW=>
  have:=(hW.ok l (by simp)).1.2
  simpa [dw] using this
theorem ajC{fa:Option Addr}{S:List (List ai)}(hS:cQ ro vS S)(hO:fo S)(hT:mz ro vT ways)(hW:za ways):FnG zT 122 [.agg ⟨[vS,vT,.slice fa 0 fc]⟩] ro [] (fun r aF Y=>∃b vl ts Lt Z,r= .tuple ⟨[zP b,vl,zI 0]⟩∧KO aF b S ways∧Y=Lt++Z∧aw vl 3 216 aka ts Lt∧ts.length=(dw S ways).length∧∀aC,Knows aC Z→dc (TrR (bI S) aC) ts (dw S ways)):=by
 have xU:=hS
 obtain⟨fD,hs,ei⟩:=hS
 obtain⟨kg,PO,PM,jo,rfl,PN,Gg,Gf⟩:=hs
 obtain⟨fK,ht,dY⟩:=id hT
 obtain⟨eB,yM,yK,dH,rfl,yL,qt,qp⟩:=ht
 have Gs:=ei.len
 have DE:=dY.len
 have Kt:=hO.two
 have BN:=hW.one
 have Hb:∀(i:Nat) (p:bU),([]:List bU)[i]?=some p→cb ⟨ro,[]⟩ 0 (0+i*6) 6 (jF p):=fun _ _ h=>lR h
 refine aDZ (hm:=ar) [] [] aU<|zD 2<|jn fun b1=>jd 7 [0]<|jc (vs:=[.agg ⟨[.slice kg fD.length jo,.slice eB fK.length dH,.slice fa 0 fc]⟩]) [] (aym xU hO hT hW) ?_
 rintro _ _ ⟨Uh,aA5,aIC,rfl,rfl,aww⟩
 refine jg 0 [.b Uh (.cells ⟨[.slice kg fD.length jo,.slice eB fK.length dH,.slice fa 0 fc,aA5]⟩ 212 (0,0)),.l aIC]<|zD 5<|jf [0,1] ((Uh,.cells ⟨[.slice kg fD.length jo,.slice eB fK.length dH,.slice fa 0 fc,aA5]⟩ 212 (0,0))::aIC) (fun yt bL iJ=>?_)
 have JU:KO yt Uh S ways:=⟨_,_,_,_,_,iJ _ (.head _),xU.up bL,hT.up bL,aww.jC (Knows.tail iJ)⟩
 refine zD 10 ?_
 have hLn:(dw S ways).length≤3:=GQ hW
 refine zD 1<|jn fun b7=>zD 5<|jc (vs:=[zP Uh]) [] (ajw) ?_
 rintro _ _ ⟨aq2,rfl,rfl⟩
 refine jg 0 [.b aq2 (.cells ⟨[zP Uh]⟩ 207 (0,0))]<|jf [0] [(aq2,.cells ⟨[zP Uh]⟩ 207 (0,0))] fun ro6 kV Zm=>zD 2<|nB<|nB<|jrf [] (aca (Zm _ (.head _)) (JU.up kV) hO hW) (by rintro _ _ _ _ ⟨_,_,_,rfl,_⟩;rfl) (fun(zz:Value×Cells×(List Xf)×Cells)=>[.b b7 (.cells ⟨[zz.1]⟩ 208 (0,0)),.l zz.2.1,.l zz.2.2.2]) (fun kk=>(fun(zz:Value×Cells×(List Xf)×Cells)=>aw zz.1 3 216 aka zz.2.2.1 zz.2.1∧zz.2.2.1.length=kk∧(∀aC,Knows aC zz.2.2.2→dc (TrR (bI S) aC) zz.2.2.1 ((dw S ways).take kk))∧(dw S ways).length≤3)) (fun jump=>(fun(zz:Value×Cells×(List Xf)×Cells)=>False)) (⟨zS,[],[],[]⟩) ⟨aw.nil _ _ _,rfl,fun _ _=> .nil,hLn⟩ [2,0,1] ?_ ?_ ?_
 ·
  rintro bl7 bd7 kk7 vs7 LL7 ⟨vl,Lt,ts,Z⟩ ro7 hk7 aRm hI sw
  obtain⟨x7,t7,hx7,rfl,hR7⟩:=aRm
  dsimp only at hI
  have bZ:=(List.getElem?_eq_some_iff.1 hx7).1
  refine zD 1<|jn fun b8=>jd 2 [0]<|aD3<|jd 4 [2,0]<|jn fun Pt=>gL (sz:=3) (ps:=ts) (qs:=[(⟨t7.a,t7.n,t7.c,t7.ea,t7.en,t7.ec,t7.r⟩:Xf)]) (enc:=aka) (w:= .slice (some ⟨Pt,0,none⟩) 1 1) [4] [0] [(Pt,.cells ⟨([(⟨t7.a,t7.n,t7.c,t7.ea,t7.en,t7.ec,t7.r⟩:Xf)].map aka).flatten⟩ 216 (0,0))] (hI.1) (fun s _ hZ=>bN [(⟨t7.a,t7.n,t7.c,t7.ea,t7.en,t7.ec,t7.r⟩:Xf)] (hZ _ (.head _)) (by intro p hp;rfl)) (fun p _=>ah rfl) (by simp only[List.length_cons,List.length_nil];omega) (fun v23 L23 Ak=>?_)
  obtain⟨atc,as0,aio⟩:=Ak.form
  subst aio
  refine jd 2 [4]<|jyn qy0 (Sub.refl _) ⟨(.slice atc ((ts++[(⟨t7.a,t7.n,t7.c,t7.ea,t7.en,t7.ec,t7.r⟩:Xf)])).length as0),L23,(ts++[(⟨t7.a,t7.n,t7.c,t7.ea,t7.en,t7.ec,t7.r⟩:Xf)]),LL7++Z⟩ ⟨Ak,by simp only[zM];omega,fun aC hk=>mL (hI.2.2.1 aC (Knows.right hk)) hx7 (hR7 aC (Knows.left hk)),hI.2.2.2⟩ [3,4,0,6,5]
 ·
  rintro bd7 ⟨vl,Lt,ts,Z⟩ Z7 hI hZ7
  dsimp only at hI
  subst hZ7
  refine jd 9 [2]<|aOM qm0.a.a.m (.tuple ⟨[zP Uh,vl,zI 0]⟩) [0] [] [2,3] (Lt++Z) (Sub.refl _) ⟨_,_,_,rfl,rfl,(bL.trans kV),Uh,vl,ts,Lt,Z,rfl,JU.up kV,rfl,hI.1,hI.2.1,by have:=hI.2.2.1;rwa[List.take_of_length_le (Nat.le_refl _)] at this⟩
 rintro bd7 ⟨vl,Lt,ts,Z⟩ Z7 jump hS hZ7
 exact hS.elim
def wv(t:Xf):Value:= .slice t.a t.n t.c
theorem dc.maps{β γ δ:Type}{R:α→β→Prop}{T:γ→δ→Prop}{f:α→γ}{g:β→δ}(h:∀a b,R a b→T (f a) (g b)):∀ {l:List α} {m:List β},dc R l m→dc T (l.map f) (m.map g)
 | [],[],.nil=> .nil
 |_::_,_::_,.cons h1 h2=> .cons (h _ _ h1) (dc.maps h h2)
theorem aa8{y:an}{l:List an}(h:y∈l):bJ (pN y.h y.n y.l) l 0≥0:=by
 have key:∀(l:List an) (k:Nat),y∈l→bJ (pN y.h y.n y.l) l k≥0:=by
  intro l
  induction l with
  |nil=>intro k h;cases h
  |cons x l ih=>
   intro k h
   simp only[bJ]
   cases hx:pN y.h y.n y.l x with
   |true=>simp
   |false=>
    simp only[cond_false]
    rcases List.mem_cons.1 h with rfl|h
    ·simp[pN] at hx
    exact ih _ h
 exact key l 0 h
theorem aoZ{fa:Option Addr}{S:List (List ai)}(hS:cQ ro vS S)(hO:fo S)(hT:mz ro vT ways)(hW:za ways):dQ zT 118 [.agg ⟨[vS,vT,.slice fa 0 fc]⟩] ro [] (fun r Y=>∃a n c,r= .tuple ⟨[.slice a n c,zI 0]⟩∧n=((dw S ways).map (·.ways)).length∧∀kU,Knows kU Y→akT kU (.slice a n c) ((dw S ways).map (·.ways))):=by
 have xU:=hS
 obtain⟨fD,hs,ei⟩:=hS
 obtain⟨kg,PO,PM,jo,rfl,PN,Gg,Gf⟩:=hs
 obtain⟨fK,ht,dY⟩:=id hT
 obtain⟨eB,yM,yK,dH,rfl,yL,qt,qp⟩:=ht
 have Gs:=ei.len
 have DE:=dY.len
 have Kt:=hO.two
 have BN:=hW.one
 have Hb:∀(i:Nat) (p:bU),([]:List bU)[i]?=some p→cb ⟨ro,[]⟩ 0 (0+i*6) 6 (jF p):=fun _ _ h=>lR h
 have hLn:=GQ (S:=S) hW
 refine zE<|zD 2<|jn fun b1=>jd 6 [0]<|jcG (vs:=[.agg ⟨[.slice kg fD.length jo,.slice eB fK.length dH,.slice fa 0 fc]⟩]) [] (ajC xU hO hT hW) ?_
 rintro _ aF _ bL ⟨xv,vl,ts,Lt,Z,rfl,JU,rfl,hL,htl,hA⟩
 obtain⟨uS,uT,uH,ua,uc,gb,_,_,hh⟩:=JU
 obtain⟨dC,s9,s8,de,rfl,uX,pJ,pH⟩:=hh
 obtain⟨aLZ,aLy,aRJ⟩:=hL.form
 subst aRJ
 refine jg 0 [.l Lt,.l Z]<|zD 28<|nB<|dL [1,1,1,1,0,1,0,0] [] (fun(zz:Nat×Value×Cells)=>[(2,zS),(3,zI 0),(7,zz.2.1),(19,(.slice aLZ ts.length aLy)),(20,zI (ts.length:Int)),(21,zI (zz.1:Int))]) (fun zz=>[.l zz.2.2,.l Lt,.l Z,.b b1 (.cells ⟨[.slice kg fD.length jo,.slice eB fK.length dH,.slice fa 0 fc]⟩ 31 (0,0))]) (fun zz=>zz.1≤ts.length∧aw zz.2.1 1 22 fB ((ts.take zz.1).map wv) zz.2.2) (fun zz=>ts.length-zz.1) (⟨0,zS,[]⟩) ⟨by dsimp only;omega,aw.nil _ _ _⟩ (zN 0 4) ?_
 rintro⟨k,vO,LO⟩ hI K1 bE rest
 dsimp only at hI
 refine zD 5<|zJ 22 ((k:Int) <(ts.length:Int)) (fun h2=>?_) fun h2=>?_
 ·
  refine zD 6 ?_
  obtain⟨mV,lT⟩:=zG ts k
  refine YT 3 hL lT fun b23 aSx=>oQ 0 [1] Lt (fun s _ hZ=>cJ hL aSx hZ lT)<|jn fun b9=>jd 6 [0,0]<|jn fun b28=>gL (sz:=1) (ps:=((ts.take k).map wv)) (qs:=[(.slice mV.a mV.n mV.c:Value)]) (enc:=fB) (w:= .slice (some ⟨b28,0,none⟩) 1 1) [2] [0] [(b28,.cells ⟨([(.slice mV.a mV.n mV.c:Value)].map fB).flatten⟩ 22 (0,0))] (hI.2) (fun s _ hZ=>bN [(.slice mV.a mV.n mV.c:Value)] (hZ _ (.head _)) (by intro p hp;rfl)) (by intro p hp;rw[List.mem_singleton] at hp;subst hp;exact ah rfl) (by simp only[List.length_map,List.length_take,List.length_cons,List.length_nil];omega) (fun v29 L29 H9=>?_)
  obtain⟨adS,adL,ain⟩:=H9.form
  subst ain
  refine zD 3<|ja ((k:Int)+1) (by omega)<|zD 2<|bF bE (⟨k+1,(.slice adS ((((ts.take k).map wv)++[(.slice mV.a mV.n mV.c:Value)])).length adL),L29⟩) ⟨by dsimp only;omega,by rw[e8 lT,List.map_append];exact H9⟩ (by dsimp only;omega) [0,3,4,5] (Sub.refl _)
 refine zD 3 ?_
 obtain⟨va3,vc3,he3⟩:=hI.2.form
 subst he3
 refine zD 6<|aI q0.a (.tuple ⟨[(.slice va3 (((ts.take k).map wv)).length vc3),zI 0]⟩) [] [0,2] (LO++Z) bL ⟨_,_,rfl,rfl,_,_,_,rfl,by simp only[List.length_map,List.length_take];omega,fun kU hk=>⟨_,hI.2.jC (Knows.left hk),by rw[List.take_of_length_le (by omega)];exact(hA kU (Knows.right hk)).maps fun _ _ h=>h.1⟩⟩
theorem aye{fa:Option Addr}{S:List (List ai)}{y:an}{x:TrD}(hS:cQ ro vS S)(hO:fo S)(hT:mz ro vT ways)(hW:za ways)(hy:y∈bI S)(hLx:dw S ways=[x]):dQ zT 85 [.agg ⟨[vS,vT,.slice fa 0 fc]⟩,.agg ⟨[zI y.h,zI y.n,zI y.l]⟩] ro [] (fun r Y=>∃a n c,r= .tuple ⟨[.slice a n c,zI 0]⟩∧∀kU,Knows kU Y→a8 kU (.slice a n c) 3 cS [x.g y]):=by
 have xU:=hS
 obtain⟨fD,hs,ei⟩:=hS
 obtain⟨kg,PO,PM,jo,rfl,PN,Gg,Gf⟩:=hs
 obtain⟨fK,ht,dY⟩:=id hT
 obtain⟨eB,yM,yK,dH,rfl,yL,qt,qp⟩:=ht
 have Gs:=ei.len
 have DE:=dY.len
 have Kt:=hO.two
 have BN:=hW.one
 have Hb:∀(i:Nat) (p:bU),([]:List bU)[i]?=some p→cb ⟨ro,[]⟩ 0 (0+i*6) 6 (jF p):=fun _ _ h=>lR h
 have hhl:=uz hO
 have hph:=aa8 hy
 have Cy:(dw S ways).length=1:=by rw[hLx];rfl
 refine zE<|zD 2<|jn fun b2=>jn fun b3=>jd 6 [1]<|jcG (vs:=[.agg ⟨[.slice kg fD.length jo,.slice eB fK.length dH,.slice fa 0 fc]⟩]) [] (ajC xU hO hT hW) ?_
 rintro _ aF _ bL ⟨b14,vl,ts,Lt,Z,rfl,JU,rfl,hL,htl,hA⟩
 obtain⟨uS,uT,uH,ua,uc,gb,_,_,hh⟩:=JU
 obtain⟨dC,s9,s8,de,rfl,uX,pJ,pH⟩:=hh
 obtain⟨rh,qj,rj⟩:=hL.form
 subst rj
 refine jg 0 [.l Lt,.l Z]<|zD 22<|jl (b:=b14) (off:=0) (m:=4) (vs:=[uS,uT,.slice ua 0 uc,.slice dC ((bI S).length) de]) 3 ⟨_,_,_,.inl gb,rfl⟩<|jd 1 [2]<|jp (vs:=[.slice dC ((bI S).length) de,.agg ⟨[zI y.h,zI y.n,zI y.l]⟩]) [] [] (fun aF hs hZ=>Mu ((show a8 _ _ _ _ _ from ⟨dC,s9,s8,de,rfl,uX,pJ,pH⟩).up hs) (by omega))<|zD 2<|js 27 (!(decide (bJ (pN y.h y.n y.l) (bI S) 0≥0))) (fun h2=>?_) (fun h2=>?_)
 ·
  exfalso;simp_all
 refine zD 9<|zJ 30 ((ts.length:Int)=0) (fun h3=>?_) fun h3=>?_
 ·
  exfalso;omega
 refine zD 5<|jf [0,1] (Lt++Z) (fun ro6 kV Zm=>?_)
 have hLs:=hL.jC (Knows.left Zm)
 have hAs:=hA _ (Knows.right Zm)
 obtain⟨ju,Fg,Ff,jq,T4,Kb,Ey,Ex⟩:=hLs
 simp only[Value.slice.injEq] at T4
 obtain⟨rfl,_,rfl⟩:=T4
 refine zD 9<|nB<|dL [1,1,1,1,1,1,0,1,0,0] [] (fun(zz:Nat×Value×Cells)=>[(3,zP b3),(4,zS),(5,zI 0),(9,zz.2.1),(31,.slice rh ts.length qj),(32,zI (ts.length:Int)),(33,zI (zz.1:Int))]) (fun zz=>[.l zz.2.2,.b b3 (.cells ⟨[zI y.h,zI y.n,zI y.l]⟩ 164 (0,0)),.b b2 (.cells ⟨[.slice kg fD.length jo,.slice eB fK.length dH,.slice fa 0 fc]⟩ 31 (0,0))]) (fun zz=>zz.1≤ts.length∧aw zz.2.1 3 164 cS ([x.g y].take zz.1) zz.2.2) (fun zz=>ts.length-zz.1) (⟨0,zS,[]⟩) ⟨by dsimp only;omega,aw.nil _ _ _⟩ [0,1,2] ?_
 rintro⟨k,vO,LO⟩ hI K1 bE rest
 dsimp only at hI
 refine zD 5<|zJ 34 ((k:Int) <(ts.length:Int)) (fun h7=>?_) fun h7=>?_
 ·
  refine zD 6 ?_
  obtain⟨x35,HU⟩:=zG ts k
  refine fL qj 3 Ey HU<|jl 0 (Ex _ _ HU)<|jn fun Uh=>jd 2 [0] ?_
  obtain⟨q35,aEH,_,beJ,beM,F35,aQM,aTh,aQZ,aPD⟩:=hAs.get HU
  obtain⟨hqe,hk0⟩:=Hr (by rw[hLx] at aEH;exact aEH)
  replace hqe:=hqe.symm
  subst hqe
  refine jd 5 [0,2]<|jlu (kv:=px) (F:=F35) (r:=x35.r) (K:=164) y (zS) false [] [] EK (fun s he _=>⟨_,_,he _ _ (.inl aQM),aTh⟩) ?_
  obtain⟨w41,aPu,aQK⟩:=YF (k:=y) (F:=F35) (aQZ y hy)
  have hww:a8 _ w41 3 cS [x.g y]:=aPD _ aQK
  obtain⟨Ka,qwb,qwo,Ew,rfl,qwk,qwh,qwl⟩:=hww
  refine jw 41 (.slice Ka ([x.g y].length) Ew) (show RS (zS) false y F35=_ from by simp only[RS,aPu];rfl) ?_
  refine gL (sz:=3) (ps:=([x.g y].take k)) (qs:=[x.g y]) (enc:=cS) (w:= .slice Ka ([x.g y].length) Ew) [1] [] [] (hI.2) (fun s he _=>⟨Ka,qwb,qwo,Ew,rfl,qwh,fun i p hp=>(qwl i p hp).ext he⟩) (fun p _=>ah rfl) (by simp only[List.length_take,List.length_cons,List.length_nil];omega) (fun v42 L42 ahE=>?_)
  obtain⟨aLQ,aLp,aRC⟩:=ahE.form
  subst aRC
  refine zD 3<|ja ((k:Int)+1) (by omega)<|zD 2<|bF bE (⟨k+1,(.slice aLQ ((([x.g y].take k)++[x.g y])).length aLp),L42⟩) ⟨by dsimp only;omega,by have:=ahE;rw[hk0] at this ⊢;exact this⟩ (by dsimp only;omega) [0,2,3] (Sub.refl _)
 refine zD 5<|jcL (vs:=[vO]) [] [0] LO (fun aF hs hZ=>ZC (hI.2.jC hZ) (by simp only[List.length_take,List.length_cons,List.length_nil];omega)) ?_
 rintro v45 L45 aEX
 obtain⟨as7,asV,axh⟩:=aEX.form
 subst axh
 refine zD 4<|aI q0.a.a (.tuple ⟨[(.slice as7 (([x.g y].take k)).length asV),zI 0]⟩) [] [0] L45 (bL.trans kV) ⟨_,_,rfl,rfl,_,_,_,rfl,fun kU hk=>by have:=aEX.jC hk;have e: [x.g y].take k=[x.g y]:=List.take_of_length_le (by simp only[List.length_cons,List.length_nil];omega);simpa only[e] using this⟩
def Vf(S:List (List ai))(ways:List (List aL))(w:List Int)(x:aB):List an:=match ways,w with
 |l::_,i::_=>(match l[i.toNat]? with
  |some c=>[z0 S c ⟨x.st,x.no,0⟩]
  |none=>[])
 |_,_=>[⟨x.st,x.no,0⟩]
def WW(K:aE):List (List Int):=(dw K.str K.ways).map (·.ways)
theorem Xe{l:List aL}{w:List Int}(h:K.ways=[l])(hw:w∈WW K):∃(i:Nat) (c:aL),l[i]?=some c∧w=[(i:Int)]:=by
 simp only[WW,h,dw,List.map_map,List.mem_map,List.mem_range,Function.comp,atn] at hw
 obtain⟨i,hi,rfl⟩:=hw
 exact⟨i,l[i],List.getElem?_eq_getElem hi,rfl⟩
theorem jm.wp(h:jm K):za K.ways:=⟨h.ways.1,fun l hl=>⟨⟨(h.ways.2 l hl).1.1,by have:=(h.ways.2 l hl).1.2;omega⟩,(h.ways.2 l hl).2⟩⟩
theorem Ym(h:jm K):K.ways=[]∨∃l,K.ways=[l]:=by
 have:=h.ways.1
 match hw:K.ways,this with
 | [],_=>exact .inl rfl
 | [l],_=>exact .inr ⟨l,rfl⟩
theorem Uo(h:jm K):Xd K (WW K):=by
 rcases Ym h with e| ⟨l,e⟩
 ·exact⟨by simp[WW,e,dw],fun w hw=>by simp[WW,e,dw] at hw;simp[hw,e],fun w hw k l n hl=>by simp[e] at hl⟩
 have hl:=(h.ways.2 l (by simp[e])).1
 refine⟨by simp[WW,e,dw];omega,fun w hw=>?_,fun w hw k l' n hk hn=>?_⟩
 ·obtain⟨i,c,_,rfl⟩:=Xe e hw;simp[e]
 obtain⟨i,c,hi,rfl⟩:=Xe e hw
 rw[e] at hk
 obtain⟨rfl,rfl⟩:=Hr hk
 obtain⟨rfl,_⟩:=Hr hn
 have:=(List.getElem?_eq_some_iff.1 hi).1
 omega
theorem Qp(hK:eR ro l K)(hO:jm K):qZ ro l (WW K):=by
 obtain⟨vS,vT,vc,vh,vr,vb,va,vf,fa,fc,hv,rfl,hS,hT,_⟩:=hK
 intro aF hs
 exact aoZ (hS.up hs) hO.m8 (hT.up hs) hO.wp
theorem abf{S:List (List ai)}{x:aB}(h:apM S hd x):(⟨x.st,x.no,0⟩:an)∈bI S:=by
 obtain⟨l,h1,h2⟩:=h.2
 have:=Ic h1 h2
 simp only[m9] at this
 rwa[show ((x.st.toNat:Nat):Int)=x.st by have:=h.1.2.2.1;omega] at this
theorem apg{l:List aL}{c:aL}(h:l[i]?=some c):(l.take ((i:Int).toNat+1)).drop (i:Int).toNat=[c]:=by
 rw[Int.toNat_natCast,e8 h,List.drop_append_of_le_length (by have:=(List.getElem?_eq_some_iff.1 h).1;rw[List.length_take];omega),List.drop_eq_nil_of_le (by rw[List.length_take];omega)];rfl
theorem Xw(hK:eR ro l K)(hO:jm K):yf ro l K (WW K) (Vf K.str K.ways):=by
 obtain⟨vS,vT,vc,vh,vr,vb,va,vf,fa,fc,hv,rfl,hS,hT,_⟩:=hK
 intro w hw x hx
 have hy:=abf (hO.before.2 x hx)
 have fin:∀(t:TrD),za (B9 K.ways w)→dw K.str (B9 K.ways w)=[t]→Vf K.str K.ways w x=[t.g ⟨x.st,x.no,0⟩]→(Vf K.str K.ways w x).length≤1000∧∀aF,Sub ro aF→∀v vS' vT' vU r,[vS,vT,.slice fa 0 fc,vc,vh,vr,vb,va,zI K.gone,zI K.new,zI K.ab,vf]=vS'::vT'::vU::r→mz aF v (B9 K.ways w)→
  dQ zT 85 [.agg ⟨[vS',v,vU]⟩,.agg ⟨[zI x.st,zI x.no,zI 0]⟩] aF [] (fun r Y=>∃a n c,r= .tuple ⟨[.slice a n c,zI 0]⟩∧∀kU,Knows kU Y→a8 kU (.slice a n c) 3 cS (Vf K.str K.ways w x)):=by
  intro t h1 h2 h3
  rw[h3]
  refine⟨by simp,fun aF hs v vS' vT' vU r he hv=>?_⟩
  simp only[List.cons.injEq] at he
  obtain⟨rfl,_,rfl,_⟩:=he
  exact aye (hS.up hs) hO.m8 hv h1 hy h2
 rcases Ym hO with e| ⟨l,e⟩
 ·refine fin ⟨[],id⟩ ?_ ?_ ?_
  ·rw[e];exact⟨by simp[B9],by simp[B9]⟩
  ·rw[e];simp[B9,dw]
  rw[e];rfl
 obtain⟨i,c,hi,rfl⟩:=Xe e hw
 have hc:B9 K.ways [(i:Int)]=[[c]]:=by rw[e];simp only[B9,List.zipWith_cons_cons,List.zipWith_nil_right,apg hi]
 refine fin ⟨[0],z0 K.str c⟩ ?_ ?_ ?_
 ·rw[hc]
  refine⟨by simp,fun l' hl=>?_⟩
  rw[List.mem_singleton] at hl;subst hl
  exact⟨by simp,fun c' tB=>by rw[List.mem_singleton] at tB;subst tB;exact(hO.ways.2 l (by simp[e])).2 _ (zL hi)⟩
 ·rw[hc];rfl
 rw[e];simp only[Vf,Int.toNat_natCast,hi]
def dq(K:aE):List bD:=(WW K).map (kZ K (Vf K.str K.ways))
theorem mY(h:jm K):(dq K).length≤2:=by
 rw[dq,List.length_map];exact(Uo h).n.2
theorem AI(hK:eR ro l K)(hO:jm K)(hV:eH K):iz ro l K (dq K):=
 apz hK hO hV (Uo hO) (Qp hK hO) (Xw hK hO)
def cN(K:aE):Nat:=(cW K (aQ K) (cw K.gone K.new K.ab) (dq K)).length
theorem ID:∀(l:List Int) (a:Int),l.foldl min a≤a∧∀x∈l,l.foldl min a≤x
 | [],a=>⟨Int.le_refl _,fun _ h=>(by cases h)⟩
 |y::l,a=>by
  obtain⟨h1,h2⟩:=ID l (min a y)
  refine⟨by simp only[List.foldl_cons];omega,fun x hx=>?_⟩
  rcases List.mem_cons.1 hx with rfl|hx
  ·simp only[List.foldl_cons];omega
  exact h2 x hx
theorem N6{l:List Int}(h:x∈l):vv l≤x:=by
 cases l with
 |nil=>cases h
 |cons y l=>
  rcases List.mem_cons.1 h with rfl|h
  ·exact(ID l _).1
  exact(ID l _).2 x h
theorem anK(hK:eR ro l K)(hO:jm K)(hV:eH K):CH zT 36 [.agg ⟨l⟩] ro [] (fun r Y=>∃zs m e,zs.Perm (cW K (aQ K) (fun _=>true) (dq K))∧Y=[]∧r= .tuple ⟨[zI m,zI e]⟩∧((zs=[]∧m=0∧e=9)∨(zs≠[]∧m=vv (zs.map GX)∧e=0))):=
 fun fr=>Fn.mono (avq hK hV (mY hO) (AI hK hO hV) fr) fun en s' ⟨v,Y,h1,h2,zs,h3,h4,h5⟩=>⟨v,Y,h1,h2,by
  rcases h5 with ⟨h5,h6⟩| ⟨h5,h6⟩
  ·exact⟨zs,0,9,h3,h4,h6,.inl ⟨h5,rfl,rfl⟩⟩
  exact⟨zs,_,0,h3,h4,h6,.inr ⟨h5,rfl,rfl⟩⟩⟩
theorem agu(hK:eR ro l K)(hO:jm K)(hV:eH K):CH zT 15 [.agg ⟨l⟩] ro [] (fun r Y=>r= .tuple ⟨[zI (cN K:Int),zI 0]⟩∧Y=[]):=agv hK hV (mY hO) (AI hK hO hV)
def IV:List Int→List Int→Bool
 | [],[]=>true
 |x::l,y::m=>decide (x=y)&&IV l m
 |_,_=>false
theorem aj3:∀ {l m:List Int},¬l.length=m.length→IV l m=false
 | [],[],h=>absurd rfl h
 | [],_::_,_=>rfl
 |_::_,[],_=>rfl
 |x::l,y::m,h=>by rw[IV,aj3 (l:=l) (m:=m) (by simpa using h),Bool.and_false]
theorem aj4(hx:xs[k]?=some x) (hy:ys[k]?=some y):IV (xs.drop k) (ys.drop k)=(decide (x=y)&&IV (xs.drop (k+1)) (ys.drop (k+1))):=by rw[fG hx,fG hy];rfl
theorem ao7(hx:¬k <xs.length)(h:xs.length=ys.length):IV (xs.drop k) (ys.drop k)=true:=by rw[eO hx,eO (by omega)];rfl
def FQ:List (List Int)→List (List Int)→Bool
 | [],[]=>true
 |x::l,y::m=>IV x y&&FQ l m
 |_,_=>false
theorem ZL:∀ {l m:List (List Int)},¬l.length=m.length→FQ l m=false
 | [],[],h=>absurd rfl h
 | [],_::_,_=>rfl
 |_::_,[],_=>rfl
 |x::l,y::m,h=>by rw[FQ,ZL (l:=l) (m:=m) (by simpa using h),Bool.and_false]
theorem ZM{xs ys:List (List Int)}{x y:List Int}(hx:xs[k]?=some x) (hy:ys[k]?=some y):FQ (xs.drop k) (ys.drop k)=(IV x y&&FQ (xs.drop (k+1)) (ys.drop (k+1))):=by rw[fG hx,fG hy];rfl
theorem aj2{xs ys:List (List Int)}(hx:¬k <xs.length)(h:xs.length=ys.length):FQ (xs.drop k) (ys.drop k)=true:=by rw[eO hx,eO (by omega)];rfl
def yZ:List Int→List Int→Int
 | [],[]=>0
 | [],_::_=> -1
 |_::_,[]=>1
 |x::xs,y::ys=>if rq x y=0 then yZ xs ys else rq x y
theorem Tt(hx:xs[k]?=some x) (hy:ys[k]?=some y):yZ (xs.drop k) (ys.drop k)=if rq x y=0 then yZ (xs.drop (k+1)) (ys.drop (k+1)) else rq x y:=by rw[fG hx,fG hy];rfl
theorem acr(hx:xs[k]?=some x) (hy:¬k <ys.length):yZ (xs.drop k) (ys.drop k)=1:=by rw[fG hx,eO hy];rfl
theorem M5(hx:¬k <xs.length):yZ (xs.drop k) (ys.drop k)=if k <ys.length then-1 else 0:=by
 rw[eO hx]
 split
 ·rename_i h
  rw[List.drop_eq_getElem_cons h];rfl
 rename_i h
 rw[eO h];rfl
def mE(f:Int):Nat→List Int
 |0=>[]
 |k+1=>mE f k++(bif hasB f k then [(k:Int)] else [])
theorem anq(h:hasB f (k:Int)=true):mE f (k+1)=mE f k++[(k:Int)]:=by rw[mE,h];rfl
theorem anr(h:hasB f (k:Int)=false):mE f (k+1)=mE f k:=by rw[mE,h];exact List.append_nil _
theorem Mq(f:Int)(n:Nat):(mE f n).length≤n:=by
 induction n with
 |zero=>exact Nat.le_refl _
 |succ n ih=>rw[mE,List.length_append];cases hasB f (n:Int)<;>simp<;>omega
def zt(f:Int):Int:=([0,1,1,2,1,2,2,3,1,2,2,3,2,3,3,4]:List Int).getD f.toNat 0
theorem Ye(h:0≤f∧f <16):0≤zt f∧zt f≤8:=by
 obtain⟨n,rfl⟩:=Int.eq_ofNat_of_zero_le h.1
 have h2:n <16:=by omega
 revert h2
 exact(by decide:∀n:Nat,n <16→0≤zt (n:Int)∧zt (n:Int)≤8) n
def Tq(x y:Int):Int:=if zt x-zt y=0 then yZ (mE x 4) (mE y 4) else zt x-zt y
theorem Tl{v w:Value}(hv:a8 ro v 1 cD xs)(hw:a8 ro w 1 cD ys)(hx:xs.length≤1000)(hy:ys.length≤1000):dv zT 12 [v,w] ro (.bool (IV xs ys)):=by
 obtain⟨NK,qvb,qvo,Ct,rfl,qvk,Q3,Q1⟩:=hv
 obtain⟨Ka,qwb,qwo,Ew,rfl,qwk,qwh,qwl⟩:=hw
 refine zE<|zD 13<|js 10 (!decide ((xs.length:Int)=(ys.length:Int))) (fun h1=>?_) (fun h1=>?_)
 ·
  replace h1:=of_decide_eq_false (by simpa using h1)
  refine zD 6<|zX (.bool false) ⟨by rw[aj3 (by omega)],rfl⟩
 replace h1:=of_decide_eq_true (by simpa using h1)
 refine zD 8<|dL [1,1,0,1,0,0] [] (fun(zz:Nat)=>[(0,.slice NK xs.length Ct),(1,.slice Ka ys.length Ew),(5,zI (zz:Int))]) (fun zz=>[]) (fun zz=>zz≤xs.length∧IV xs ys=IV (xs.drop zz) (ys.drop zz)) (fun zz=>xs.length-zz) 0 ⟨by omega,rfl⟩ [] ?_
 rintro k hI K1 bE rest
 refine zD 8<|zJ 14 ((k:Int) <(xs.length:Int)) (fun h2=>?_) fun h2=>?_
 ·
  refine zD 8 ?_
  obtain⟨tM,pU⟩:=zG xs k
  refine fL Ct 1 Q3 pU<|jl 0 (Q1 _ _ pU)<|zD 2 ?_
  obtain⟨mV,lT⟩:=zG ys k
  refine fL Ew 1 qwh lT<|jl 0 (qwl _ _ lT)<|zD 2<|js 25 (!decide (tM=mV)) (fun h3=>?_) (fun h3=>?_)
  ·
   replace h3:=of_decide_eq_false (by simpa using h3)
   refine zD 6<|zX (.bool false) ⟨by rw[hI.2,aj4 pU lT,decide_eq_false (by omega),Bool.false_and],rfl⟩
  replace h3:=of_decide_eq_true (by simpa using h3)
  refine zD 4<|ja ((k:Int)+1) (by omega)<|zD 2<|bF bE (k+1) ⟨by omega,by rw[hI.2,aj4 pU lT,decide_eq_true (by omega),Bool.true_and]⟩ (by omega) [] (Sub.refl _)
 refine zD 7<|zX (.bool true) ⟨by rw[hI.2,ao7 (by omega) (by omega)],rfl⟩
theorem aO7{v w:Value}(hv:a8 ro v 1 cD xs)(hw:a8 ro w 1 cD ys)(hx:xs.length≤1000)(hy:ys.length≤1000):dv zT 116 [v,w] ro (zI (yZ xs ys)):=by
 obtain⟨NK,qvb,qvo,Ct,rfl,qvk,Q3,Q1⟩:=hv
 obtain⟨Ka,qwb,qwo,Ew,rfl,qwk,qwh,qwl⟩:=hw
 refine zE<|zD 12<|dL [1,0,1,0,0] [] (fun(zz:Nat)=>[(0,.slice NK xs.length Ct),(1,.slice Ka ys.length Ew),(9,.slice NK xs.length Ct),(10,zI (xs.length:Int)),(11,zI (zz:Int))]) (fun zz=>[]) (fun zz=>(zz≤xs.length∧zz≤ys.length)∧yZ xs ys=yZ (xs.drop zz) (ys.drop zz)) (fun zz=>xs.length-zz) 0 ⟨by omega,rfl⟩ [] ?_
 rintro k hI K1 bE rest
 refine zD 5<|zJ 12 ((k:Int) <(xs.length:Int)) (fun h1=>?_) fun h1=>?_
 ·
  refine zD 7 ?_
  obtain⟨eE,dN⟩:=zG xs k
  refine fL Ct 1 Q3 dN<|jl 0 (Q1 _ _ dN)<|zD 11<|zJ 19 ((k:Int)≥(ys.length:Int)) (fun h2=>?_) fun h2=>?_
  ·
   refine zD 6<|zX (zI 1) ⟨by rw[hI.2,acr dN (by omega)],rfl⟩
  refine zD 6 ?_
  obtain⟨sH,uv⟩:=zG ys k
  refine fL Ew 1 qwh uv<|jl 0 (qwl _ _ uv)<|zD 6<|jp (vs:=[zI eE,zI sH]) [] [] (fun aF hs hZ=>ayk)<|zD 7<|js 28 (!decide ((rq eE sH)=0)) (fun h3=>?_) (fun h3=>?_)
  ·
   replace h3:=of_decide_eq_false (by simpa using h3)
   refine zD 7<|zX (zI (rq eE sH)) ⟨by rw[hI.2,Tt dN uv,if_neg (by omega)],rfl⟩
  replace h3:=of_decide_eq_true (by simpa using h3)
  refine zD 3<|ja ((k:Int)+1) (by omega)<|zD 2<|bF bE (k+1) ⟨by omega,by rw[hI.2,Tt dN uv,if_pos (by omega)]⟩ (by omega) [] (Sub.refl _)
 refine zD 11<|zJ 35 ((xs.length:Int) <(ys.length:Int)) (fun h4=>?_) fun h4=>?_
 ·
  refine zD 6<|zX (zI (-1)) ⟨by rw[hI.2,M5 (by omega),if_pos (by omega)],rfl⟩
 refine zD 7<|zX (zI 0) ⟨by rw[hI.2,M5 (by omega),if_neg (by omega)],rfl⟩
theorem ajP:dQ zT 81 [.int .u8 f] ro [] (fun r Y=>∃L,aw r 1 3 cD (mE f 4) L∧Y=L):=by
 refine zE<|zD 14<|nB<|dL [1,1,0,1,0,0] [] (fun(zz:Nat×Value×Cells)=>[(0,.int .u8 f),(2,zS),(3,zz.2.1),(5,zI (zz.1:Int))]) (fun zz=>[.l zz.2.2]) (fun zz=>zz.1≤4∧aw zz.2.1 1 3 cD (mE f zz.1) zz.2.2) (fun zz=>4-zz.1) (⟨0,zS,[]⟩) ⟨by dsimp only;omega,aw.nil _ _ _⟩ [0] ?_
 rintro⟨k,v,L⟩ hI K1 bE rest
 dsimp only at hI
 have hll:=Mq f k
 refine zD 5<|zJ 6 ((k:Int) <4) (fun h1=>?_) fun h1=>?_
 ·
  refine zD 13<|jp (vs:=[.int .u8 f,zI (k:Int)]) [] [] (fun aF hs hZ=>(avt (by omega)))<|zD 1<|js 10 (hasB f (k:Int)) (fun h2=>?_) (fun h2=>?_)
  ·
   refine zD 4<|jn fun AY=>gL (sz:=1) (ps:=(mE f k)) (qs:=[(k:Int)]) (enc:=cD) (w:= .slice (some ⟨AY,0,none⟩) 1 1) [1] [0] [(AY,.cells ⟨([(k:Int)].map cD).flatten⟩ 3 (0,0))] (hI.2) (fun s _ hZ=>bN [(k:Int)] (hZ _ (.head _)) (by intro p hp;rfl)) (fun p _=>ah rfl) (by simp<;>omega) (fun v14 L14 uy=>?_)
   obtain⟨rh,qj,rj⟩:=uy.form
   subst rj
   refine zD 3<|ja ((k:Int)+1) (by omega)<|zD 2<|bF bE (⟨k+1,(.slice rh (((mE f k)++[(k:Int)])).length qj),L14⟩) ⟨by dsimp only;omega,by dsimp only;rw[anq (by assumption)];exact uy⟩ (by dsimp only;omega) [0] (Sub.refl _)
  refine zD 3<|ja ((k:Int)+1) (by omega)<|zD 2<|bF bE (⟨k+1,v,L⟩) ⟨by dsimp only;omega,by dsimp only;rw[anr (by assumption)];exact hI.2⟩ (by dsimp only;omega) [0] (Sub.refl _)
 refine zD 8<|zR (v) [] [0] L ⟨_,(by rw[←show k=4 by omega];exact hI.2),rfl⟩
theorem avm:dv zT 115 [.int .u8 0] ro (zI 0):=by
 refine zE<|zD 12<|zX (zI 0) ⟨rfl,rfl⟩
theorem avl:dv zT 115 [.int .u8 1] ro (zI 1):=by
 refine zE<|zD 12<|zX (zI 1) ⟨rfl,rfl⟩
theorem avk:dv zT 115 [.int .u8 2] ro (zI 1):=by
 refine zE<|zD 12<|zX (zI 1) ⟨rfl,rfl⟩
theorem avj:dv zT 115 [.int .u8 3] ro (zI 2):=by
 refine zE<|zD 12<|zX (zI 2) ⟨rfl,rfl⟩
theorem avi:dv zT 115 [.int .u8 4] ro (zI 1):=by
 refine zE<|zD 12<|zX (zI 1) ⟨rfl,rfl⟩
theorem avh:dv zT 115 [.int .u8 5] ro (zI 2):=by
 refine zE<|zD 12<|zX (zI 2) ⟨rfl,rfl⟩
theorem avg:dv zT 115 [.int .u8 6] ro (zI 2):=by
 refine zE<|zD 12<|zX (zI 2) ⟨rfl,rfl⟩
theorem avf:dv zT 115 [.int .u8 7] ro (zI 3):=by
 refine zE<|zD 12<|zX (zI 3) ⟨rfl,rfl⟩
theorem ave:dv zT 115 [.int .u8 8] ro (zI 1):=by
 refine zE<|zD 12<|zX (zI 1) ⟨rfl,rfl⟩
theorem avd:dv zT 115 [.int .u8 9] ro (zI 2):=by
 refine zE<|zD 12<|zX (zI 2) ⟨rfl,rfl⟩
theorem anG:dv zT 115 [.int .u8 10] ro (zI 2):=by
 refine zE<|zD 12<|zX (zI 2) ⟨rfl,rfl⟩
theorem anF:dv zT 115 [.int .u8 11] ro (zI 3):=by
 refine zE<|zD 12<|zX (zI 3) ⟨rfl,rfl⟩
theorem anE:dv zT 115 [.int .u8 12] ro (zI 2):=by
 refine zE<|zD 12<|zX (zI 2) ⟨rfl,rfl⟩
theorem anD:dv zT 115 [.int .u8 13] ro (zI 3):=by
 refine zE<|zD 12<|zX (zI 3) ⟨rfl,rfl⟩
theorem anC:dv zT 115 [.int .u8 14] ro (zI 3):=by
 refine zE<|zD 12<|zX (zI 3) ⟨rfl,rfl⟩
theorem anB:dv zT 115 [.int .u8 15] ro (zI 4):=by
 refine zE<|zD 12<|zX (zI 4) ⟨rfl,rfl⟩
theorem ara(h:0≤f∧f <16):dv zT 115 [.int .u8 f] ro (zI (zt f)):=by
 obtain rfl|rfl|rfl|rfl|rfl|rfl|rfl|rfl|rfl|rfl|rfl|rfl|rfl|rfl|rfl|rfl:=(by omega:f=0∨f=1∨f=2∨f=3∨f=4∨f=5∨f=6∨f=7∨f=8∨f=9∨f=10∨f=11∨f=12∨f=13∨f=14∨f=15)
 ·exact avm
 ·exact avl
 ·exact avk
 ·exact avj
 ·exact avi
 ·exact avh
 ·exact avg
 ·exact avf
 ·exact ave
 ·exact avd
 ·exact anG
 ·exact anF
 ·exact anE
 ·exact anD
 ·exact anC
 exact anB
def LL(ro:Nat→Option Obj)(v:Value)(W:List (List Int)):Prop:=∃ws,a8 ro v 1 fB ws∧dc (fun w l=>a8 ro w 1 cD l) ws W
theorem ayw{v w:Value}{ws us:List Value}{W U:List (List Int)}(hv:a8 ro v 1 fB ws)(hw:a8 ro w 1 fB us)(ha:dc (fun w l=>a8 ro w 1 cD l) ws W)(hb:dc (fun w l=>a8 ro w 1 cD l) us U)(hx:W.length≤1000)(hy:U.length≤1000)(hW:∀l∈W,l.length≤1000)(hU:∀l∈U,l.length≤1000):dv zT 41 [v,w] ro (.bool (FQ W U)):=by
 obtain⟨NK,qvb,qvo,Ct,rfl,qvk,Q3,Q1⟩:=hv
 obtain⟨Ka,qwb,qwo,Ew,rfl,qwk,qwh,qwl⟩:=hw
 have hla:=ha.len
 have hlb:=hb.len
 refine zE<|zD 13<|js 10 (!decide ((ws.length:Int)=(us.length:Int))) (fun h1=>?_) (fun h1=>?_)
 ·
  replace h1:=of_decide_eq_false (by simpa using h1)
  refine zD 6<|zX (.bool false) ⟨by rw[ZL (by omega)],rfl⟩
 replace h1:=of_decide_eq_true (by simpa using h1)
 refine zD 8<|dL [1,1,0,1,0,0] [] (fun(zz:Nat)=>[(0,.slice NK ws.length Ct),(1,.slice Ka us.length Ew),(5,zI (zz:Int))]) (fun zz=>[]) (fun zz=>zz≤W.length∧FQ W U=FQ (W.drop zz) (U.drop zz)) (fun zz=>W.length-zz) 0 ⟨by omega,rfl⟩ [] ?_
 rintro k hI K1 bE rest
 refine zD 8<|zJ 14 ((k:Int) <(ws.length:Int)) (fun h2=>?_) fun h2=>?_
 ·
  refine zD 8 ?_
  obtain⟨tM,pU⟩:=zG ws k
  refine fL Ct 1 Q3 pU ?_
  obtain⟨l20,awQ,h20⟩:=ha.get pU
  obtain awI:=hW _ (zL awQ)
  obtain⟨aCU,aNG,aNC,aCT,rfl,aNE,aNF,aND⟩:=h20
  refine jl 0 (Q1 _ _ pU)<|zD 2 ?_
  obtain⟨mV,lT⟩:=zG us k
  refine fL Ew 1 qwh lT ?_
  obtain⟨Vx,V0,h24⟩:=hb.get lT
  obtain aFj:=hU _ (zL V0)
  obtain⟨aun,aCN,aCL,ae8,rfl,aCM,amN,amM⟩:=h24
  refine jl 0 (qwl _ _ lT)<|jp (vs:=[.slice aCU l20.length aCT,.slice aun Vx.length ae8]) [] [] (fun aF hs hZ=>Tl ((show a8 _ _ _ _ _ from ⟨aCU,aNG,aNC,aCT,rfl,aNE,aNF,aND⟩).up hs) ((show a8 _ _ _ _ _ from ⟨aun,aCN,aCL,ae8,rfl,aCM,amN,amM⟩).up hs) awI aFj)<|zD 2<|js 26 (!(IV l20 Vx)) (fun h3=>?_) (fun h3=>?_)
  ·
   try simp only[zB] at h3
   refine zD 6<|zX (.bool false) ⟨by rw[hI.2,ZM awQ V0];simp_all,rfl⟩
  try simp only[zB] at h3
  refine zD 4<|ja ((k:Int)+1) (by omega)<|zD 2<|bF bE (k+1) ⟨by omega,by rw[hI.2,ZM awQ V0];simp_all⟩ (by omega) [] (Sub.refl _)
 refine zD 7<|zX (.bool true) ⟨by rw[hI.2,aj2 (by omega) (by omega)],rfl⟩
theorem RU:(mE f 4).length≤1000:=Nat.le_trans (Mq f 4) (by decide)
def Fz:Nat→List Int→List Int
 |0,ys=>ys
 |j+1,ys=>if Tq (ys.getD (j+1) 0) (ys.getD j 0) <0 then Fz j ((ys.set (j+1) (ys.getD j 0)).set j (ys.getD (j+1) 0)) else ys
def G0:Nat→Nat→List Int→List Int
 |0,_,ys=>ys
 |n+1,i,ys=>G0 n (i+1) (Fz i ys)
def Es(xs:List Int):List Int:=G0 (xs.length-1) 1 xs
theorem abz(h:¬j>0):Fz j.toNat ys=ys:=by rw[show j.toNat=0 by omega];rfl
theorem aoX(h:ys[i]?=some x):ys.getD i 0=x:=by rw[List.getD_eq_getElem?_getD,h];rfl
theorem abA(hj:j>0)(hx:ys[j.toNat]?=some x) (hy:ys[(j-1).toNat]?=some y) (h:¬Tq x y <0):Fz j.toNat ys=ys:=by
 have e:j.toNat=(j-1).toNat+1:=by omega
 rw[e] at hx ⊢
 rw[Fz,aoX hx,aoX hy,if_neg h]
theorem YY{x' y':Int}(hj:j>0)(hx:ys[j.toNat]?=some x) (hy:ys[(j-1).toNat]?=some y) (mj:ys[j.toNat]?=some x') (hy':ys[(j-1).toNat]?=some y') (h:Tq x y <0):Fz j.toNat ys=Fz (j-1).toNat ((ys.set j.toNat y').set (j-1).toNat x'):=by
 rw[hx] at mj;rw[hy] at hy';cases mj;cases hy'
 have e:j.toNat=(j-1).toNat+1:=by omega
 rw[e] at hx ⊢
 rw[Fz,aoX hx,aoX hy,if_pos h]
def Pz(v:Value)(xs:List Int)(Y:Cells):Prop:=∃ys,ys=Es xs∧aw v 1 120 Ug ys Y
theorem UN{i:Int}(h:Es xs=G0 (n-i.toNat) i.toNat ys)(hi:0≤i∧i <n):Es xs=G0 (n-(i+1).toNat) (i+1).toNat (Fz i.toNat ys):=by
 rw[h,show n-i.toNat=(n-(i+1).toNat)+1 by omega,show (i+1).toNat=i.toNat+1 by omega];rfl
theorem aaC{i:Int}(h:Es xs=G0 (n-i.toNat) i.toNat ys)(hi:¬i <n):ys=Es xs:=by
 rw[h,show n-i.toNat=0 by omega];rfl
theorem aOy(hx:0≤x∧x <16)(hy:0≤y∧y <16):dv zT 114 [.int .u8 x,.int .u8 y] ro (zI (Tq x y)):=by
 have hpx:=Ye hx
 have hpy:=Ye hy
 refine zE<|zD 8<|jp (vs:=[.int .u8 x]) [] [] (fun aF hs hZ=>(ara hx))<|zD 1<|jp (vs:=[.int .u8 y]) [] [] (fun aF hs hZ=>(ara hy))<|ja ((zt x)-(zt y)) (by omega)<|zD 7<|js 12 (!decide (((zt x)-(zt y))=0)) (fun h1=>?_) (fun h1=>?_)
 ·
  replace h1:=of_decide_eq_false (by simpa using h1)
  refine zD 7<|zX (zI ((zt x)-(zt y))) ⟨by rw[Tq,if_neg (by omega)],rfl⟩
 replace h1:=of_decide_eq_true (by simpa using h1)
 refine zD 5<|jc (vs:=[.int .u8 x]) [] (ajP) ?_
 rintro v15 L15 ⟨_,ahS,rfl⟩
 refine zD 1<|jc (vs:=[.int .u8 y]) [] (ajP) ?_
 rintro v17 L17 ⟨_,Dx,rfl⟩
 refine jp (vs:=[v15,v17]) [1,0] (L15++L17) (fun aF hs hZ=>aO7 (ahS.jC hZ.left) (Dx.jC hZ.right) RU RU)<|zD 3<|zX (zI (yZ (mE x 4) (mE y 4))) ⟨by rw[Tq,if_pos (by omega)],rfl⟩
theorem aOx{v:Value}{L:Cells}(ho:aw v 1 120 Ug xs L)(hN:xs.length≤12)(hM:∀m∈xs,0≤m∧m <16):dQ zT 171 [v,zI 0,zI (xs.length:Int),.func (.func 114) ⟨[]⟩ ⟨[]⟩] ro L (fun r Y=>Pz v xs Y):=by
 refine zC [.l L]<|zD 7<|dL [1,0,0] [] (fun(zz:Int×(List Int)×Cells)=>[(0,v),(1,zI 0),(2,zI (xs.length:Int)),(3,.func (.func 114) ⟨[]⟩ ⟨[]⟩),(8,zI zz.1)]) (fun zz=>[.l zz.2.2]) (fun zz=>(1≤zz.1)∧aw v 1 120 Ug zz.2.1 zz.2.2∧zz.2.1.Perm xs∧Es xs=G0 (xs.length-zz.1.toNat) zz.1.toNat zz.2.1) (fun zz=>((xs.length:Int)-zz.1).toNat) (⟨1,xs,L⟩) ⟨by dsimp only;omega,ho,.refl _,rfl⟩ [0] ?_
 rintro⟨i,ys,L⟩ hI K1 bE rest
 dsimp only at hI
 have T3:=hI.2.2.1.length_eq
 have hym:∀m∈ys,0≤m∧m <16:=fun m hm=>hM m (hI.2.2.1.mem_iff.1 hm)
 refine zD 7<|zJ 14 (i <(xs.length:Int)) (fun h1=>?_) fun h1=>?_
 ·
  refine zD 10<|dL [1,0,0,1,0,0,1,0,0] [K1] (fun(zz:Int×(List Int)×Cells)=>[(0,v),(1,zI 0),(2,zI (xs.length:Int)),(3,.func (.func 114) ⟨[]⟩ ⟨[]⟩),(8,zI i),(9,zI zz.1)]) (fun zz=>[.l zz.2.2]) (fun zz=>(0≤zz.1∧zz.1≤i)∧aw v 1 120 Ug zz.2.1 zz.2.2∧zz.2.1.Perm xs∧Es xs=G0 (xs.length-(i+1).toNat) (i+1).toNat (Fz zz.1.toNat zz.2.1)) (fun zz=>zz.1.toNat) (⟨i,ys,L⟩) ⟨by dsimp only;omega,hI.2.1,hI.2.2.1,UN hI.2.2.2 (by omega)⟩ [0] ?_
  rintro⟨j,ys,L⟩ hJ K2 lG rest
  dsimp only at hJ
  have T3:=hJ.2.2.1.length_eq
  have hym:∀m∈ys,0≤m∧m <16:=fun m hm=>hM m (hJ.2.2.1.mem_iff.1 hm)
  refine zD 7<|js 3 (decide (j>0)) (fun h2=>?_) (fun h2=>?_)
  ·
   have kI:=h2
   replace kI:=of_decide_eq_true kI
   refine zD 3 ?_
   obtain⟨zc,lS⟩:=zG ys (j.toNat) (by first|omega| (simp only[List.length_set];omega))
   refine qA j 1 hJ.2.1 lS (Int.toNat_of_nonneg (show 0≤j∧j <((ys).length:Int) from (by first|omega| (simp only[List.length_set];omega))).1).symm (fun oF aiB=>?_)
   refine oQ 0 [0] L (fun s _ hZ=>cJ hJ.2.1 aiB hZ lS)<|zD 2<|ja (j-1) (by omega) ?_
   obtain⟨oH,jL⟩:=zG ys ((j-1).toNat) (by first|omega| (simp only[List.length_set];omega))
   refine qA (j-1) 1 hJ.2.1 jL (Int.toNat_of_nonneg (show 0≤(j-1)∧(j-1) <((ys).length:Int) from (by first|omega| (simp only[List.length_set];omega))).1).symm (fun b30 V9=>?_)
   refine oQ 0 [0] L (fun s _ hZ=>cJ hJ.2.1 V9 hZ jL)<|aS 14 fun rZ r8 qM=>jp (vs:=[.int .u8 zc,.int .u8 oH]) [] [] (fun aF hs hZ=>(aOy (hym _ (zL lS)) (hym _ (zL jL))))<|ep qM [0]<|zD 3<|zJ 34 ((Tq zc oH) <0) (fun h4=>?_) fun h4=>?_
   ·
    refine zD 9<|ja (j-1) (by omega)<|zD 2<|ja (j-1) (by omega) ?_
    obtain⟨yl,FE⟩:=zG ys ((j-1).toNat) (by first|omega| (simp only[List.length_set];omega))
    refine qA (j-1) 1 hJ.2.1 FE (Int.toNat_of_nonneg (show 0≤(j-1)∧(j-1) <((ys).length:Int) from (by first|omega| (simp only[List.length_set];omega))).1).symm (fun b45 aiA=>?_)
    refine oQ 0 [0] L (fun s _ hZ=>cJ hJ.2.1 aiA hZ FE)<|zD 2 ?_
    obtain⟨J1,FD⟩:=zG ys (j.toNat) (by first|omega| (simp only[List.length_set];omega))
    refine qA j 1 hJ.2.1 FD (Int.toNat_of_nonneg (show 0≤j∧j <((ys).length:Int) from (by first|omega| (simp only[List.length_set];omega))).1).symm (fun b49 aiz=>?_)
    refine oQ 0 [0] L (fun s _ hZ=>cJ hJ.2.1 aiz hZ FD) ?_
    obtain⟨x51,FC⟩:=zG ys (j.toNat) (by first|omega| (simp only[List.length_set];omega))
    refine qA j 1 hJ.2.1 FC (Int.toNat_of_nonneg (show 0≤j∧j <((ys).length:Int) from (by first|omega| (simp only[List.length_set];omega))).1).symm (fun b51 aiy=>?_)
    refine aS 15 fun sL sR qL=>R6 0 0 [.int .u8 yl] yl hJ.2.1 aiy FC rfl rfl (Nat.le_of_ble_eq_true rfl) fun L6 ho7=>fR qL [] ?_
    obtain⟨x52,wI⟩:=zG ((ys.set j.toNat yl)) ((j-1).toNat) (by first|omega| (simp only[List.length_set];omega))
    refine qA (j-1) 1 ho7 wI (Int.toNat_of_nonneg (show 0≤(j-1)∧(j-1) <(((ys.set j.toNat yl)).length:Int) from (by first|omega| (simp only[List.length_set];omega))).1).symm (fun b52 aix=>?_)
    refine aS 17 fun A0 Bm Au=>R6 0 0 [.int .u8 J1] J1 ho7 aix wI rfl rfl (Nat.le_of_ble_eq_true rfl) fun L9 ahT=>gA Au<|zD 3<|ja (j-1) (by omega)<|zD 2<|bF lG (⟨(j-1),((ys.set j.toNat yl).set ((j-1).toNat) J1),L9⟩) ⟨by dsimp only;omega,ahT,(nX FD FE).trans hJ.2.2.1,by dsimp only;rw[hJ.2.2.2,YY (by omega) lS jL FD FE (by assumption)]⟩ (by dsimp only;omega) [0] (Sub.refl _)
   refine zD 4<|ja (i+1) (by omega)<|zD 2<|bF bE (⟨(i+1),ys,L⟩) ⟨by dsimp only;omega,hJ.2.1,hJ.2.2.1,by dsimp only;rw[hJ.2.2.2,abA (by omega) lS jL (by assumption)]⟩ (by dsimp only;omega) [0] (Sub.refl _)
  have kI:=h2
  replace kI:=of_decide_eq_false kI
  refine zD 18<|ja (i+1) (by omega)<|zD 2<|bF bE (⟨(i+1),ys,L⟩) ⟨by dsimp only;omega,hJ.2.1,hJ.2.2.1,by dsimp only;rw[hJ.2.2.2,abz (by omega)]⟩ (by dsimp only;omega) [0] (Sub.refl _)
 refine zD 2<|zR (.tuple ⟨[]⟩) [] [0] L ⟨ys,aaC hI.2.2.2 (by omega),hI.2.1⟩
theorem apG(h:K.facts.length≤3):IntKind.u8.wrap (aQ K+1)=((2^K.facts.length:Nat):Int):=by
 unfold aQ
 generalize K.facts.length=n at h
 obtain rfl|rfl|rfl|rfl:n=0∨n=1∨n=2∨n=3:=by omega
 all_goals decide
theorem amQ(h:n≤3):2^n≤8:=by
 obtain rfl|rfl|rfl|rfl:n=0∨n=1∨n=2∨n=3:=by omega
 all_goals decide
theorem aBd(h:n≤255):Value.int .u8 (IntKind.u8.wrap (n:Int))= .int .u8 (n:Int):=by
 rw[sN .u8 rfl _ (by omega) (by simp[IntKind.bits];omega)]
def pP(n:Nat):List Int:=Es (cK (2^n))
theorem aaU(h:n≤8):∀m∈cK n,0≤m∧m <16:=fun m hm=>by have:=nV hm;omega
theorem aOw{v:Value}{L:Cells}{lim:Int}(ho:aw v 1 120 Ug xs L)(hN:xs.length≤12)(hM:∀m∈xs,0≤m∧m <16):dQ zT 151 [v,zI 0,zI (xs.length:Int),zI lim,.func (.func 114) ⟨[]⟩ ⟨[]⟩] ro L (fun r Y=>Pz v xs Y):=by
 refine zC [.l L]<|zD 9<|dL [1,1,0,0] [] (fun(zz:Nat)=>[(0,v),(1,zI 0),(2,zI (xs.length:Int)),(3,zI lim),(4,.func (.func 114) ⟨[]⟩ ⟨[]⟩),(10,.bool true),(11,.bool true)]) (fun zz=>[.l L]) (fun zz=>True) (fun zz=>zz) 0 trivial [0] ?_
 rintro z hI K1 bE rest
 refine zD 5<|ja ((xs.length:Int)-0) (by omega)<|zD 8<|zJ 25 (((xs.length:Int)-0)≤12) (fun h1=>?_) fun h1=>?_
 ·
  refine zD 7<|jc (vs:=[v,zI 0,zI (xs.length:Int),.func (.func 114) ⟨[]⟩ ⟨[]⟩]) [0] (aOx ho hN hM) ?_
  rintro aBT Y30 ⟨aKL,awo,wN⟩
  refine zD 2<|zR (.tuple ⟨[]⟩) [] [0] Y30 ⟨_,awo,wN⟩
 exfalso;omega
theorem aDz{v:Value}{L:Cells}(ho:aw v 1 120 Ug xs L)(hN:xs.length≤12)(hM:∀m∈xs,0≤m∧m <16):dQ zT 113 [v,.func (.func 114) ⟨[]⟩ ⟨[]⟩] ro L (fun r Y=>Pz v xs Y):=by
 refine zC [.l L]<|zD 3<|Fy ho<|zD 6<|je (zU (xs.length:Int)) (ady (by omega))<|jp (vs:=[zU (xs.length:Int)]) [] [] (fun aF hs hZ=>(ayj (by omega)))<|zD 1<|jc (vs:=[v,zI 0,zI (xs.length:Int),zI (abq xs.length),.func (.func 114) ⟨[]⟩ ⟨[]⟩]) [0] (aOw ho hN hM) ?_
 rintro aBU Y13 ⟨aKN,abO,VW⟩
 refine zD 1<|zR (.tuple ⟨[]⟩) [] [0] Y13 ⟨_,abO,VW⟩
theorem aHn{f:Nat}{rows:List bD}(hF:ov ro f K rows)(hV:eH K)(Zi:K.facts.length≤3):dQ zT 80 [zP f] ro [] (fun r Y=>∃L,aw r 1 120 Ug (pP K.facts.length) L∧Y=L):=by
 have hp8:=amQ Zi
 refine zE<|zD 12<|jp (vs:=[zP f]) [] [] (fun aF hs hZ=>HL hV (hF.up hs))<|je (.int .u8 ((2^K.facts.length:Nat):Int)) (congrArg (Value.int .u8) (apG Zi))<|zD 3<|nB<|dL [1,1,0,1,0,0] [] (fun(zz:Nat×Value×Cells)=>[(2,zS),(3,zz.2.1),(7,.int .u8 ((2^K.facts.length:Nat):Int)),(8,.int .u8 (zz.1:Int))]) (fun zz=>[.l zz.2.2]) (fun zz=>zz.1≤2^K.facts.length∧aw zz.2.1 1 120 Ug (cK zz.1) zz.2.2) (fun zz=>2^K.facts.length-zz.1) (⟨0,zS,[]⟩) ⟨Nat.zero_le _,aw.nil _ _ _⟩ [0] ?_
 rintro⟨k,v,L⟩ hI K1 bE rest
 dsimp only at hI
 have hrl:=iC k
 refine zD 5<|zJ 9 ((k:Int) <((2^K.facts.length:Nat):Int)) (fun h1=>?_) fun h1=>?_
 ·
  refine zD 12<|jn fun AY=>gL (sz:=1) (ps:=(cK k)) (qs:=[(k:Int)]) (enc:=Ug) (w:= .slice (some ⟨AY,0,none⟩) 1 1) [1] [0] [(AY,.cells ⟨([(k:Int)].map Ug).flatten⟩ 120 (0,0))] (hI.2) (fun s _ hZ=>bN [(k:Int)] (hZ _ (.head _)) (by intro p hp;rfl)) (fun p _=>ah rfl) (by simp<;>omega) (fun v14 L14 uy=>?_)
  obtain⟨rh,qj,rj⟩:=uy.form
  subst rj
  refine zD 3<|je (.int .u8 ((k:Int)+1)) (aBd (n:=k+1) (by omega))<|zD 2<|bF bE (⟨k+1,(.slice rh (((cK k)++[(k:Int)])).length qj),L14⟩) ⟨by dsimp only;omega,by dsimp only;rw[wq];exact uy⟩ (by dsimp only;omega) [0] (Sub.refl _)
 refine zD 5<|jc (vs:=[v,.func (.func 114) ⟨[]⟩ ⟨[]⟩]) [0] (aDz hI.2 (by rw[iC];omega) (aaU (by omega))) ?_
 rintro aZ3 Y17 ⟨aZb,aQh,Dx⟩
 refine zD 7<|zR (v) [] [0] Y17 ⟨_,by rw[pP,show 2^K.facts.length=k by omega,←aQh];exact Dx,rfl⟩
def FW(K:aE)(rows:List bD)(p:Nat→Int):Nat→Bool
 |0=>false
 |i+1=>FW K rows p i||cw K.gone K.new K.ab (cB K ((rows[i]?).getD ⟨fun _ _=>false⟩) i p)
theorem aag{rows:List bD}{p:Nat→Int}{r:bD}(h:rows[i]?=some r):FW K rows p (i+1)=(FW K rows p i||cw K.gone K.new K.ab (cB K r i p)):=by rw[FW,h];rfl
theorem apF{rows:List bD}{p:Nat→Int}(h:FW K rows p i=true)(hn:i≤n):FW K rows p n=true:=by
 induction n with
 |zero=>rwa[show i=0 by omega] at h
 |succ n ih=>
  by_cases e:i=n+1
  ·rwa[e] at h
  rw[FW,ih (by omega),Bool.true_or]
def FV(K:aE)(rows:List bD)(on:Int):Bool:=(aN K on).any fun p=>FW K rows p rows.length
theorem akK{f:α→Bool}{l:List α}{x:α}(h:l[k]?=some x) (h1:(l.take k).any f=false) (h2:f x=false):(l.take (k+1)).any f=false:=by
 rw[j6 h,List.any_append,h1,List.any_cons,h2];rfl
theorem ayo{f:Nat}{rows:List bD}{on:Int}(hF:ov ro f K rows)(hV:eH K)(hR:rows.length≤1000):dQ zT 57 [zP f,.int .u8 on] ro [] (fun r Y=>r= .bool (FV K rows on)∧Y=[]):=by
 obtain⟨c0,c1,c2,vc,vh,vr,vb,va,vf,vt,hv,hf,nF,mH,hr,DG,It,KA,bX⟩:=id hF
 obtain⟨hc,hh,dr⟩:=id nF
 obtain⟨dS,yw,yu,dP,rfl,AR,vK,vJ⟩:=hc
 obtain⟨dC,s9,s8,de,rfl,uX,pJ,pH⟩:=hh
 obtain⟨ju,Fg,Ff,jq,rfl,Kb,Ey,Ex⟩:=hr
 obtain⟨k7,Kh,Kc,kF,rfl,Kg,Fi,Fh⟩:=DG
 obtain⟨k8,Kk,Ki,kG,rfl,Kj,Fq,Fp⟩:=It
 obtain⟨mQ,Vb,U9,lO,rfl,Va,NQ,NP⟩:=KA
 obtain⟨nW,Fe,Fc,nD,rfl,Q4,NM,NL⟩:=bX
 have T7:=hV.rules.1
 have BO:=hV.before.1
 have EM:=hV.after.1
 have hnf:=hV.facts.1
 refine agP ar [] [] aU<|zD 2<|jn fun b2=>zD 5<|jn fun b5=>jd 9 [0,1]<|jc (vs:=[zP f,.int .u8 on]) [] (Ms (on:=on) hF hV) ?_
 rintro _ _ ⟨q1,q2,q3,q4,rfl,rfl⟩
 refine jg 0 [.b q1 (.cells ⟨[zP f]⟩ 104 (0,0)),.b q2 (.cells ⟨[.func (.func 127) ⟨[]⟩ ⟨[zP q1,zP q4]⟩]⟩ 221 (0,0)),.b q3 (.cells ⟨[.bool (dF K on 0 0),.bool (dF K on 0 1),.bool (dF K on 0 2),.bool (dF K on 0 3),.bool (dF K on 1 0),.bool (dF K on 1 1),.bool (dF K on 1 2),.bool (dF K on 1 3),.bool (dF K on 2 0),.bool (dF K on 2 1),.bool (dF K on 2 2),.bool (dF K on 2 3),.bool (dF K on 3 0),.bool (dF K on 3 1),.bool (dF K on 3 2),.bool (dF K on 3 3)]⟩ 159 (0,0)),.b q4 (.cells ⟨[.int .u8 on]⟩ 120 (0,0))]<|jf [0,1,2,3,5] ((q1,.cells ⟨[zP f]⟩ 104 (0,0))::((q2,.cells ⟨[.func (.func 127) ⟨[]⟩ ⟨[zP q1,zP q4]⟩]⟩ 221 (0,0))::((q3,.cells ⟨[.bool (dF K on 0 0),.bool (dF K on 0 1),.bool (dF K on 0 2),.bool (dF K on 0 3),.bool (dF K on 1 0),.bool (dF K on 1 1),.bool (dF K on 1 2),.bool (dF K on 1 3),.bool (dF K on 2 0),.bool (dF K on 2 1),.bool (dF K on 2 2),.bool (dF K on 2 3),.bool (dF K on 3 0),.bool (dF K on 3 1),.bool (dF K on 3 2),.bool (dF K on 3 3)]⟩ 159 (0,0))::((q4,.cells ⟨[.int .u8 on]⟩ 120 (0,0))::[(b2,.cells ⟨[zP f]⟩ 104 (0,0))])))) fun yt bL iJ=>zD 2<|jrf [] (YO (on:=on) (hF.up bL) hV (iJ _ (.head _)) (iJ _ (.tail _ (.head _))) (iJ _ (.tail _ (.tail _ (.head _)))) (iJ _ (.tail _ (.tail _ (.tail _ (.head _)))))) (by rintro _ _ _ _ ⟨_,_,rfl,_⟩;rfl) (fun(zz:Bool)=>[.b b5 (.cells ⟨[.bool zz]⟩ 4 (0,0))]) (fun kk=>(fun(zz:Bool)=>zz=false∧(((aN K on).take kk).any fun p=>FW K rows p rows.length)=false)) (fun jump=>(fun(zz:Bool)=>jump= .exit 0∧zz=true∧FV K rows on=true)) false ⟨rfl,rfl⟩ [0] ?_ ?_ ?_
 ·
  rintro bl4 bd4 kk4 vs4 LL4 bo ro4 hk4 axe hI kV
  obtain⟨p4,hp4,rfl,rfl⟩:=axe
  have hpb:=(gp hV on).2 p4 (zL hp4)
  refine zD 1<|jn fun b6=>jd 2 [0]<|aD3<|zD 3<|jl (b:=b2) (off:=0) (m:=1) (vs:=[zP f]) 0 ⟨_,_,_,.inl (kV _ _ (iJ _ (.tail _ (.tail _ (.tail _ (.tail _ (.head _))))))),rfl⟩<|zD 2<|jl (b:=f) (off:=0) (m:=13) (vs:=[c0,c1,c2,.slice dS K.cs.length dP,.slice dC hv.length de,.slice ju K.rules.length jq,.slice k7 K.before.length kF,.slice k8 K.after.length kG,zI K.gone,zI K.new,zI K.ab,.slice mQ K.facts.length lO,.slice nW rows.length nD]) 12 ⟨_,_,_,.inl (kV _ _ (bL _ _ hf)),rfl⟩<|zD 4<|aOU [1] [1,0,1,1,0,1,0,3,0,1,0,0] [] (fun(zz:Nat×Bool)=>[(2,zP b2),(4,.bool false),(5,zP b5),(6,zP b6),(16,zI (rows.length:Int)),(17,zI (zz.1:Int))]) (fun zz=>[.b b5 (.cells ⟨[.bool zz.2]⟩ 4 (0,0)),.b b6 (.cells ⟨[zI (p4 0),zI (p4 1),zI (p4 2),zI (p4 3)]⟩ 113 (0,0))]) (fun zz=>zz.1≤rows.length∧zz.2=false∧FW K rows p4 zz.1=false) (fun zz=>rows.length-zz.1) (⟨0,bo⟩) ⟨Nat.zero_le _,hI.1,rfl⟩ [2,0,1] ?_
  rintro⟨i,bo⟩ hJ K1 bE rest
  dsimp only at hJ
  refine zD 5<|zJ 18 ((i:Int) <(rows.length:Int)) (fun h5=>?_) fun h5=>?_
  ·
   refine zD 5 ?_
   obtain⟨r_,Dv⟩:∃r_,rows[i]?=some r_:=⟨_,List.getElem?_eq_getElem (by omega)⟩
   refine zD 6<|jl (b:=b2) (off:=0) (m:=1) (vs:=[zP f]) 0 ⟨_,_,_,.inl (kV _ _ (iJ _ (.tail _ (.tail _ (.tail _ (.tail _ (.head _))))))),rfl⟩<|jl (b:=b2) (off:=0) (m:=1) (vs:=[zP f]) 0 ⟨_,_,_,.inl (kV _ _ (iJ _ (.tail _ (.tail _ (.tail _ (.tail _ (.head _))))))),rfl⟩<|jd 2 [1]<|jp (vs:=[zP f,zI (i:Int),.agg ⟨[zI (p4 0),zI (p4 1),zI (p4 2),zI (p4 3)]⟩]) [] [] (fun aF hs hZ=>arb (hF.up (Sub.trans (bL.trans kV) hs)) hV Dv hpb)<|jp (vs:=[zP f,.agg ⟨[zI ((cB K r_ i p4).past),zI ((cB K r_ i p4).w0),zI ((cB K r_ i p4).w1),zI ((cB K r_ i p4).w2),zI ((cB K r_ i p4).w3),zI ((cB K r_ i p4).gone),zI ((cB K r_ i p4).new),zI ((cB K r_ i p4).ab)]⟩]) [] [] (fun aF hs hZ=>agD (x:=(cB K r_ i p4)) (hs _ _ (kV _ _ (bL _ _ hf))))<|aS 6 fun A1 Bn Av=>jd 1 [0]<|gA Av<|jd 5 [0]<|js 26 (cw K.gone K.new K.ab (cB K r_ i p4)) (fun h7=>?_) (fun h7=>?_)
   ·
    refine zD 2<|jys qy0 (Sub.refl _) (.exit 0) (cw K.gone K.new K.ab (cB K r_ i p4)) ⟨rfl,by assumption,List.any_eq_true.2 ⟨p4,zL hp4,apF (i:=i+1) (by rw[aag Dv];simp[*]) (by omega)⟩⟩ [2,0]
   refine zD 3<|ja ((i:Int)+1) (by omega)<|zD 2<|bF bE (⟨i+1,(cw K.gone K.new K.ab (cB K r_ i p4))⟩) ⟨by dsimp only;omega,by assumption,by dsimp only;rw[aag Dv,hJ.2.2,Bool.false_or];assumption⟩ (by dsimp only;omega) [0,1,2] (Sub.refl _)
  refine zD 2<|jyn qy0 (Sub.refl _) bo ⟨hJ.2.1,akK hp4 hI.2 (by have:=hJ.2.2;rwa[show i=rows.length by omega] at this)⟩ [2,0]
 ·
  rintro bd4 bo Z4 hI hZ4
  subst hZ4
  refine jd 6 [2]<|jrM qm0.a.m (.bool bo) [0] [] [] [] bL ⟨by have:=hI.2;rw[List.take_of_length_le (Nat.le_refl _)] at this;rw[hI.1,FV,this],rfl⟩
 rintro bd4 bo Z4 jump hS hZ4
 obtain⟨rfl,hS⟩:=hS
 subst hZ4
 refine jd 6 [2]<|jrM qm0.a.m (.bool bo) [0] [] [] [] bL ⟨by rw[hS.1,hS.2],rfl⟩
def iAn(k:IntKind)(a b:Int):Int:=k.wrap (BitVec.ofInt k.bits a&&& ~~~ BitVec.ofInt k.bits b).toNat
theorem auU:pP 0=[0]:=by kernel_rfl
theorem auT:pP 1=[0,1]:=by kernel_rfl
theorem auS:pP 2=[0,1,2,3]:=by kernel_rfl
theorem auR:pP 3=[0,1,2,4,3,5,6,7]:=by kernel_rfl
theorem af0(h:n≤3):(pP n).length≤8∧∀m∈pP n,0≤m∧m <16:=by
 obtain rfl|rfl|rfl|rfl:n=0∨n=1∨n=2∨n=3:=by omega
 ·rw[auU];decide
 ·rw[auT];decide
 ·rw[auS];decide
 rw[auR];decide
def Nj(K:aE)(rows:List bD):Option Int:=(pP K.facts.length).find? fun m=>FV K rows (iAn .u8 (aQ K) m)
theorem ZI{p:α→Bool}{l:List α}{x:α}(hx:l[k]?=some x):(l.drop k).find? p=bif p x then some x else (l.drop (k+1)).find? p:=by rw[fG hx,List.find?_cons];cases p x<;>rfl
theorem ajK{p:α→Bool}{l:List α}(hx:¬k <l.length):(l.drop k).find? p=none:=by rw[eO hx];rfl
theorem au6{rows:List bD}(hK:eR ro l K)(hV:eH K)(hR:rows.length≤2)(hB:iz ro l K rows)(Zi:K.facts.length≤3):dQ zT 37 [.agg ⟨l⟩] ro [] (fun r Y=>∃v e,r= .tuple ⟨[v,zI e]⟩∧((∃m,Nj K rows=some m∧aw v 1 3 cD (mE m 4) Y∧e=0)∨(Nj K rows=none∧v= zS∧e=11∧Y=[]))):=by
 obtain⟨v0,v1,v3,v4,v5,v6,v7,vb,fa,fc,hv,rfl,_⟩:=hK
 have Sz:=af0 Zi
 have VZ:=Sz.1
 refine zE<|zD 2<|jn fun b1=>jd 6 [0]<|jc (vs:=[.agg ⟨[v0,v1,.slice fa 0 fc,v3,v4,v5,v6,v7,zI K.gone,zI K.new,zI K.ab,vb]⟩]) [] (hB _ (Sub.refl _)) ?_
 rintro _ Y10 ⟨f10,rfl,ax3⟩
 refine zD 5<|jf [0] Y10 (fun yt bL iJ=>?_)
 have yE:=ax3 _ bL iJ
 refine zD 13<|jc (vs:=[zP f10]) [] (aHn yE hV Zi) ?_
 rintro v17 L17 ⟨_,Dx,rfl⟩
 refine Fy Dx<|zD 3<|dL [1,1,1,0,1,0,0] [] (fun(zz:Nat)=>[(4,zP f10),(17,v17),(18,zI ((pP K.facts.length).length:Int)),(19,zI (zz:Int))]) (fun zz=>[.l L17,.b b1 (.cells ⟨[v0,v1,.slice fa 0 fc,v3,v4,v5,v6,v7,zI K.gone,zI K.new,zI K.ab,vb]⟩ 40 (0,0))]) (fun zz=>zz≤(pP K.facts.length).length∧Nj K rows=((pP K.facts.length).drop zz).find? (fun m=>FV K rows (iAn .u8 (aQ K) m))) (fun zz=>(pP K.facts.length).length-zz) 0 ⟨Nat.zero_le _,rfl⟩ [0,1] ?_
 rintro k hI K1 bE rest
 refine zD 5<|zJ 20 ((k:Int) <((pP K.facts.length).length:Int)) (fun h4=>?_) fun h4=>?_
 ·
  refine zD 6 ?_
  obtain⟨zd,qD⟩:=zG ((pP K.facts.length)) k (by first|omega| (simp only[List.length_set,zM];omega))
  refine YT 1 Dx qD fun b21 aSy=>oQ 0 [0] L17 (fun s _ hZ=>cJ Dx aSy hZ qD)<|zD 6<|jp (vs:=[zP f10]) [] [] (fun aF hs hZ=>HL hV (yE.up hs))<|zD 1<|je (.int .u8 (iAn .u8 (aQ K) zd)) rfl<|jc (vs:=[zP f10,.int .u8 (iAn .u8 (aQ K) zd)]) [] (ayo yE hV (by omega)) ?_
  rintro _ _ ⟨rfl,rfl⟩
  refine jg 0 []<|zD 1<|js 28 (FV K rows (iAn .u8 (aQ K) zd)) (fun h5=>?_) (fun h5=>?_)
  ·
   refine zD 4<|jc (vs:=[.int .u8 zd]) [] (ajP) ?_
   rintro v30 L30 ⟨_,wN,rfl⟩
   refine zD 4<|aI q0.a (.tuple ⟨[v30,zI 0]⟩) [] [0] L30 bL ⟨_,_,rfl,rfl,_,_,rfl,.inl ⟨_,by rw[hI.2,ZI qD];simp only[*,cond_true],wN,rfl⟩⟩
  refine zD 3<|ja ((k:Int)+1) (by omega)<|zD 2<|bF bE (k+1) ⟨by omega,by rw[hI.2,ZI qD];simp only[*,cond_false]⟩ (by omega) [0,1] (Sub.refl _)
 refine zD 8<|aI q0.a (.tuple ⟨[zS,zI 11]⟩) [] [] [] bL ⟨_,_,rfl,rfl,_,_,rfl,.inr ⟨by rw[hI.2,ajK (by omega)],rfl,rfl,rfl⟩⟩
theorem Of{f:Nat}{rows:List bD}(hF:ov ro f K rows)(hV:eH K)(hR:rows.length≤2):CH zT 45 [zP f] ro [] (fun r Y=>∃zs v e,r= .tuple ⟨[v,zI e]⟩∧zs.Perm (cW K (aQ K) (cw K.gone K.new K.ab) rows)∧aw v 8 115 cG zs Y∧((zs=[]∧e=9)∨(zs≠[]∧e=0))):=by
 refine Ad ar [] [] aU fun fr=>zD 9<|jp (vs:=[zP f]) [] [] (fun aF hs hZ=>HL hV (hF.up hs))<|JF (vs:=[zP f,.int .u8 (aQ K)]) [] (fun _ _ h=>h) (YN hV hF hR) ?_
 rintro v8 Y8 ⟨zs,hz,ho8⟩
 refine zD 6<|Fy ho8<|zD 2<|zJ 11 ((zs.length:Int)=0) (fun h1=>?_) fun h1=>?_
 ·
  refine zD 7<|Fx qC (.tuple ⟨[zS,zI 9]⟩) [1] [] (Sub.refl _) ⟨zs,_,_,rfl,hz,by rw[show zs=[] from List.eq_nil_of_length_eq_zero (by omega)];exact aw.nil _ _ _,.inl ⟨List.eq_nil_of_length_eq_zero (by omega),rfl⟩⟩
 refine zD 9<|Fx qC (.tuple ⟨[v8,zI 0]⟩) [0,1] Y8 (Sub.refl _) ⟨zs,_,_,rfl,hz,ho8,.inr ⟨fun e=>by subst e;simp at*,rfl⟩⟩
theorem YP{rows:List bD}(hK:eR ro l K)(hV:eH K)(hR:rows.length≤2)(hB:iz ro l K rows):ay8 zT 82 [.agg ⟨l⟩] ro [] (fun r aF Y=>∃f zs v e,r= .tuple ⟨[pV f,v,zI e]⟩∧ov aF f K rows∧zs.Perm (cW K (aQ K) (cw K.gone K.new K.ab) rows)∧aw v 8 115 cG zs Y∧((zs=[]∧e=9)∨(zs≠[]∧e=0))):=by
 obtain⟨v0,v1,v3,v4,v5,v6,v7,vb,fa,fc,hv,rfl,_⟩:=hK
 refine aD0 (hm:=ar) [] [] aU fun fr=>zD 2<|jn fun b1=>jd 7 [0]<|jc (vs:=[.agg ⟨[v0,v1,.slice fa 0 fc,v3,v4,v5,v6,v7,zI K.gone,zI K.new,zI K.ab,vb]⟩]) [] (hB _ (Sub.refl _)) ?_
 rintro _ Y10 ⟨f10,rfl,ax3⟩
 refine zD 5<|jf [0] Y10 (fun yt bL iJ=>?_)
 have yE:=ax3 _ bL iJ
 refine zD 12<|JF (vs:=[zP f10]) [] (fun _ _ h=>h) (Of yE hV hR) ?_
 rintro _ Y18 ⟨zs,v18,e18,rfl,hz,abS,he⟩
 refine zD 16<|aON qC.a (.tuple ⟨[zP f10,v18,zI e18]⟩) [0,2] Y18 bL ⟨f10,zs,v18,e18,rfl,yE,hz,abS,he⟩
theorem anH{x:aj}:dv zT 76 [.agg ⟨[zI x.past,zI x.w0,zI x.w1,zI x.w2,zI x.w3,zI x.gone,zI x.new,zI x.ab]⟩] ro (zI x.ab):=by
 refine zE<|zD 2<|jn fun b1=>jd 9 [0]<|zX (zI x.ab) ⟨rfl,rfl⟩
theorem agw{rows:List bD}(hK:eR ro l K)(hV:eH K)(hR:rows.length≤2)(hB:iz ro l K rows):CH zT 75 [.agg ⟨l⟩,.func (.func 76) ⟨[]⟩ ⟨[]⟩] ro [] (fun r Y=>∃zs a b e,zs.Perm (cW K (aQ K) (cw K.gone K.new K.ab) rows)∧Y=[]∧r= .tuple ⟨[.agg ⟨[zI a,zI b]⟩,zI e]⟩∧((zs=[]∧a=0∧b=0∧e=9)∨(zs≠[]∧a=vv (zs.map fun x=>x.ab)∧b=Dm (zs.map fun x=>x.ab)∧e=0))):=by
 obtain⟨v0,v1,v3,v4,v5,v6,v7,vb,fa,fc,hv,rfl,_⟩:=id hK
 refine Ad ar [] [] aU fun fr=>zD 2<|jn fun b2=>jn fun b4=>jd 5 [1]<|anS (vs:=[.agg ⟨[v0,v1,.slice fa 0 fc,v3,v4,v5,v6,v7,zI K.gone,zI K.new,zI K.ab,vb]⟩]) [] (fun _ _ h=>h) (YP hK hV hR hB) ?_
 rintro _ aF Y14 bL ⟨f14,zs,v14,O9,rfl,yE,hz,Oz,he⟩
 have Ku:∀x∈zs,(-4≤x.gone∧x.gone≤4)∧(-4≤x.new∧x.new≤4)∧(0≤x.ab∧x.ab≤4):=fun x hx=>by obtain⟨i,r,p,_,_,rfl,_⟩:=eP (hz.mem_iff.1 hx);exact lg hV r i p
 have VD:zs.length≤1250:=by rw[hz.length_eq];exact lX hV _ _ hR
 refine zD 7<|jf [0] Y14 (fun ro4 oC Zn=>?_)
 have Wc:=Oz.jC Zn
 obtain⟨mZ,C8,C6,mg,rfl,C7,zr,zq⟩:=Wc
 refine zD 7<|js 19 (!decide (O9=0)) (fun h5=>?_) (fun h5=>?_)
 ·
  replace h5:=of_decide_eq_false (by simpa using h5)
  have pg:zs=[]∧O9=9:=by rcases he with h| ⟨_,h⟩;exact h;omega
  refine jd 9 [0]<|avy qC.a.a (.tuple ⟨[.agg ⟨[zI 0,zI 0]⟩,zI O9]⟩) [0] [2] [] (bL.trans oC) ⟨zs,_,_,_,hz,rfl,rfl,.inl ⟨pg.1,rfl,rfl,pg.2⟩⟩
 replace h5:=of_decide_eq_true (by simpa using h5)
 have pg:zs≠[]∧O9=0:=by rcases he with ⟨_,h⟩|h;omega;exact h
 have hzp:0 <zs.length:=List.length_pos_iff.2 pg.1
 refine zD 14<|nB<|dL [1,1,1,1,0,1,0,0] [] (fun(zz:Nat×Value×Cells)=>[(1,.func (.func 76) ⟨[]⟩ ⟨[]⟩),(4,zP b4),(5,zI 0),(9,zz.2.1),(22,.slice mZ zs.length mg),(23,zI (zs.length:Int)),(24,zI (zz.1:Int))]) (fun zz=>[.l zz.2.2,.b b4 (.cells ⟨[zI 0,zI 0]⟩ 93 (0,0)),.b b2 (.cells ⟨[v0,v1,.slice fa 0 fc,v3,v4,v5,v6,v7,zI K.gone,zI K.new,zI K.ab,vb]⟩ 40 (0,0)),.l fr]) (fun zz=>zz.1≤zs.length∧aw zz.2.1 1 3 cD ((zs.take zz.1).map fun x=>x.ab) zz.2.2) (fun zz=>zs.length-zz.1) (⟨0,zS,[]⟩) ⟨by dsimp only;omega,aw.nil _ _ _⟩ (zN 0 4) ?_
 rintro⟨k,vS,LS⟩ hI K1 bE rest
 dsimp only at hI
 refine zD 5<|zJ 25 ((k:Int) <(zs.length:Int)) (fun h6=>?_) fun h6=>?_
 ·
  refine zD 6 ?_
  obtain⟨Ul,abJ⟩:=zG zs k
  refine fL mg 8 zr abJ<|jl 0 (zq _ _ abJ)<|jn fun Uh=>jd 6 [0,0]<|jp (vs:=[.agg ⟨[zI Ul.past,zI Ul.w0,zI Ul.w1,zI Ul.w2,zI Ul.w3,zI Ul.gone,zI Ul.new,zI Ul.ab]⟩]) [] [] (fun aF hs hZ=>(anH (x:=Ul)))<|jn fun b32=>gL (sz:=1) (ps:=((zs.take k).map fun x=>x.ab)) (qs:=[Ul.ab]) (enc:=cD) (w:= .slice (some ⟨b32,0,none⟩) 1 1) [2] [0] [(b32,.cells ⟨([Ul.ab].map cD).flatten⟩ 3 (0,0))] (hI.2) (fun s _ hZ=>bN [Ul.ab] (hZ _ (.head _)) (by intro p hp;rfl)) (fun p _=>ah rfl) (by simp only[List.length_map,List.length_take,List.length_cons,List.length_nil];omega) (fun v33 L33 H8=>?_)
  obtain⟨ata,asY,axl⟩:=H8.form
  subst axl
  refine zD 3<|ja ((k:Int)+1) (by omega)<|zD 2<|bF bE (⟨k+1,(.slice ata ((((zs.take k).map fun x=>x.ab)++[Ul.ab])).length asY),L33⟩) ⟨by dsimp only;omega,by rw[j6 abJ,List.map_append];exact H8⟩ (by dsimp only;omega) [0,3,4,5] (Sub.refl _)
 refine zD 5<|jp (vs:=[vS]) [0] LS (fun aF hs hZ=>aq9 (hI.2.jC hZ) ⟨by simp only[List.length_map,List.length_take];omega,by simp only[List.length_map,List.length_take];omega⟩) ?_
 refine jd 4 [1]<|avy qC.a.a (.tuple ⟨[.agg ⟨[zI (vv ((zs.take k).map fun x=>x.ab)),zI (Dm ((zs.take k).map fun x=>x.ab))]⟩,zI 0]⟩) [1] [3] [] (bL.trans oC) ⟨zs,_,_,_,hz,rfl,rfl,.inr ⟨pg.1,by rw[show k=zs.length by omega,List.take_length],by rw[show k=zs.length by omega,List.take_length],rfl⟩⟩
theorem avp{rows:List bD}(hK:eR ro l K)(hV:eH K)(hR:rows.length≤2)(hB:iz ro l K rows):CH zT 35 [.agg ⟨l⟩] ro [] (fun r Y=>∃zs a b e,zs.Perm (cW K (aQ K) (cw K.gone K.new K.ab) rows)∧Y=[]∧r= .tuple ⟨[.agg ⟨[zI a,zI b]⟩,zI e]⟩∧((zs=[]∧a=0∧b=0∧e=9)∨(zs≠[]∧a=vv (zs.map fun x=>x.ab)∧b=Dm (zs.map fun x=>x.ab)∧e=0))):=by
 obtain⟨v0,v1,v3,v4,v5,v6,v7,vb,fa,fc,hv,rfl,_⟩:=id hK
 refine Ad ar [] [] aU fun fr=>zD 2<|jn fun b1=>jn fun b2=>jd 5 [1]<|JF (vs:=[.agg ⟨[v0,v1,.slice fa 0 fc,v3,v4,v5,v6,v7,zI K.gone,zI K.new,zI K.ab,vb]⟩,.func (.func 76) ⟨[]⟩ ⟨[]⟩]) [] (fun _ _ h=>h) (agw hK hV hR hB) ?_
 rintro _ _ ⟨zs,a5,c5,e5,hz,rfl,rfl,he⟩
 refine jg 0 []<|jd 6 [0]<|avy qC (.tuple ⟨[.agg ⟨[zI a5,zI c5]⟩,zI e5]⟩) [0] [2] [] (Sub.refl _) ⟨zs,_,_,_,hz,rfl,rfl,he⟩
theorem avo{a b:Int}:dv zT 65 [zI a,zI b] ro (.bool (decide (a=b))):=by
 refine zE<|zD 12<|zX (.bool (decide (a=b))) ⟨rfl,rfl⟩
theorem aHL{a b:Int}{s:Bool}:dv zT 39 [zI a,zI b,.bool s] ro (.agg ⟨[zI a,zI b,.bool s]⟩):=by
 refine zE<|zD 2<|jn fun b6=>jd 10 [0]<|zR (.agg ⟨[zI a,zI b,.bool s]⟩) [0] [] [] ⟨rfl,rfl⟩
theorem cAt{w:ByteArray}{a b c:Int}:dv zT 74 [.string w,zI a,zI b,zI c] ro (.agg ⟨[.string w,zI a,zI b,zI c,.bool false]⟩):=by
 refine zE<|zD 2<|jn fun b8=>jd 11 [0]<|zR (.agg ⟨[.string w,zI a,zI b,zI c,.bool false]⟩) [0] [] [] ⟨rfl,rfl⟩
theorem aHM{w:ByteArray}{a:Int}:dv zT 73 [.string w,zI a] ro (.agg ⟨[.string w,zI (-1),zI a,(zS)]⟩):=by
 refine zE<|zD 2<|jn fun b4=>jd 9 [0]<|zR (.agg ⟨[.string w,zI (-1),zI a,zS]⟩) [0] [] [] ⟨rfl,rfl⟩
theorem cIs{w:ByteArray}{a:Int}{va:Option Addr}{vn vc:Nat}:dv zT 72 [.string w,zI a,(.slice va vn vc)] ro (.agg ⟨[.string w,zI a,zI (-1),(.slice va vn vc)]⟩):=by
 refine zE<|zD 2<|jn fun b6=>jd 10 [0]<|zR (.agg ⟨[.string w,zI a,zI (-1),(.slice va vn vc)]⟩) [0] [] [] ⟨rfl,rfl⟩
def WR:List bO:=[⟨(bs [102,111,111,100]),-1⟩,⟨(bs [98,114,101,97,100]),0⟩,⟨(bs [99,108,111,116,104]),-1⟩,⟨(bs [104,97,116,115]),2⟩]
def D6:List cy:=[⟨(bs [98,97,107,101,114]),1,-1,[]⟩,⟨(bs [98,111,110,110,101,116,115]),-1,3,[]⟩,⟨(bs [99,111,110,102,101,99,116,105,111,110,101,114]),0,-1,[0]⟩,⟨(bs [104,97,116,116,101,114]),3,-1,[]⟩,⟨(bs [109,101,114,99,101,114]),2,-1,[3]⟩,⟨(bs [109,105,108,108,105,110,101,114]),-1,1,[]⟩]
def Pf:List aB:=[⟨(bs [115,109,105,116,104]),0,1,0,false⟩,⟨(bs [97,110,110,97]),0,2,3,false⟩,⟨(bs [115,109,121,116,104]),1,1,2,false⟩]
def Pg:List aB:=[⟨(bs [115,109,121,116,104]),0,2,0,false⟩,⟨(bs [115,109,105,116,104]),1,1,-1,false⟩,⟨(bs [98,101,110]),0,1,4,false⟩]
abbrev aX(n:Int):aE where
 ways:=[[⟨1,0,0,0,0,0,0⟩,⟨2,0,0,0,0,0,0⟩]]
 cs:=WR
 hd:=D6
 rules:=[⟨(bs [121]),(bs [105])⟩]
 before:=Pf
 after:=Pg
 gone:=1
 new:=1
 ab:=n
 facts:=[]
 str:=[[⟨1,0⟩,⟨2,0⟩],[⟨1,0⟩]]
abbrev EW(oF J0 b9 AJ sE sJ CG:Nat)(n:Int):List Value:=[.slice (some ⟨oF,0,none⟩) 2 2,.slice (some ⟨J0,0,none⟩) 1 1,zS,.slice (some ⟨b9,0,none⟩) 4 4,.slice (some ⟨AJ,0,none⟩) 6 6,.slice (some ⟨sE,0,none⟩) 1 1,.slice (some ⟨sJ,0,none⟩) 3 3,.slice (some ⟨CG,0,none⟩) 3 3,zI 1,zI 1,zI n,zS]
abbrev I5(oF Pt Jp J0 b29 b9 AJ xv Jr sE sJ CG:Nat):Cells:=[(oF,.cells ⟨[.slice (some ⟨Pt,0,none⟩) 2 2,.slice (some ⟨Jp,0,none⟩) 1 1]⟩ 74 (0,0)),(Pt,.cells ⟨[zI 1,zI 0,zI 2,zI 0]⟩ 73 (0,0)),(Jp,.cells ⟨[zI 1,zI 0]⟩ 73 (0,0)),(J0,.cells ⟨[.slice (some ⟨b29,0,none⟩) 2 2]⟩ 81 (0,0)),(b29,.cells ⟨[zI 1,zI 0,zI 0,zI 0,zI 0,zI 0,zI 0,zI 2,zI 0,zI 0,zI 0,zI 0,zI 0,zI 0]⟩ 77 (0,0)),(b9,.cells ⟨[.string (bs [102,111,111,100]),zI (-1),.string (bs [98,114,101,97,100]),zI 0,.string (bs [99,108,111,116,104]),zI (-1),.string (bs [104,97,116,115]),zI 2]⟩ 140 (0,0)),(AJ,.cells ⟨[.string (bs [98,97,107,101,114]),zI 1,zI (-1),zS,.string (bs [98,111,110,110,101,116,115]),zI (-1),zI 3,zS,.string (bs [99,111,110,102,101,99,116,105,111,110,101,114]),zI 0,zI (-1),.slice (some ⟨xv,0,none⟩) 1 1,.string (bs [104,97,116,116,101,114]),zI 3,zI (-1),zS,.string (bs [109,101,114,99,101,114]),zI 2,zI (-1),.slice (some ⟨Jr,0,none⟩) 1 1,.string (bs [109,105,108,108,105,110,101,114]),zI (-1),zI 1,zS]⟩ 143 (0,0)),(xv,.cells ⟨[zI 0]⟩ 3 (0,0)),(Jr,.cells ⟨[zI 3]⟩ 3 (0,0)),(sE,.cells ⟨[.string (bs [121]),.string (bs [105])]⟩ 84 (0,0)),(sJ,.cells ⟨[.string (bs [115,109,105,116,104]),zI 0,zI 1,zI 0,.bool false,.string (bs [97,110,110,97]),zI 0,zI 2,zI 3,.bool false,.string (bs [115,109,121,116,104]),zI 1,zI 1,zI 2,.bool false]⟩ 44 (0,0)),(CG,.cells ⟨[.string (bs [115,109,121,116,104]),zI 0,zI 2,zI 0,.bool false,.string (bs [115,109,105,116,104]),zI 1,zI 1,zI (-1),.bool false,.string (bs [98,101,110]),zI 0,zI 1,zI 4,.bool false]⟩ 44 (0,0))]
abbrev akm(xv Jr:Nat):List aY:=[⟨(bs [98,97,107,101,114]),1,-1,zS⟩,⟨(bs [98,111,110,110,101,116,115]),-1,3,zS⟩,⟨(bs [99,111,110,102,101,99,116,105,111,110,101,114]),0,-1,.slice (some ⟨xv,0,none⟩) 1 1⟩,⟨(bs [104,97,116,116,101,114]),3,-1,zS⟩,⟨(bs [109,101,114,99,101,114]),2,-1,.slice (some ⟨Jr,0,none⟩) 1 1⟩,⟨(bs [109,105,108,108,105,110,101,114]),-1,1,zS⟩]
theorem M6{oF Pt Jp J0 b29 b9 AJ xv Jr sE sJ CG:Nat}{n:Int}(hk:Knows ro (I5 oF Pt Jp J0 b29 b9 AJ xv Jr sE sJ CG)):eR ro (EW oF J0 b9 AJ sE sJ CG n) (aX n):=
 ⟨_,_,_,_,_,_,_,_,none,0,akm xv Jr,rfl,
  ⟨[.slice (some ⟨Pt,0,none⟩) 2 2,.slice (some ⟨Jp,0,none⟩) 1 1],bV (enc:=fB) (T:=74) [.slice (some ⟨Pt,0,none⟩) 2 2,.slice (some ⟨Jp,0,none⟩) 1 1] (hk _ (.head _)) (fun _ _=>rfl),
   .cons (bV (enc:=cA) (T:=73) [⟨1,0⟩,⟨2,0⟩] (hk _ (.tail _ (.head _))) (fun _ _=>rfl)) (.cons (bV (enc:=cA) (T:=73) [⟨1,0⟩] (hk _ (.tail _ (.tail _ (.head _)))) (fun _ _=>rfl)) .nil)⟩,
  ⟨[.slice (some ⟨b29,0,none⟩) 2 2],bV (enc:=fB) (T:=81) [.slice (some ⟨b29,0,none⟩) 2 2] (hk _ (.tail _ (.tail _ (.tail _ (.head _))))) (fun _ _=>rfl),
   .cons (bV (enc:=iu) (T:=77) [⟨1,0,0,0,0,0,0⟩,⟨2,0,0,0,0,0,0⟩] (hk _ (.tail _ (.tail _ (.tail _ (.tail _ (.head _)))))) (fun _ _=>rfl)) .nil⟩,
  ⟨bV (enc:=lJ) (T:=140) WR (hk _ (.tail _ (.tail _ (.tail _ (.tail _ (.tail _ (.head _))))))) (fun _ _=>rfl),bV (enc:=jZ) (T:=143) (akm xv Jr) (hk _ (.tail _ (.tail _ (.tail _ (.tail _ (.tail _ (.tail _ (.head _)))))))) (fun _ _=>rfl),
   .cons ⟨rfl,rfl,rfl,a8.nil _ _ _ _ _⟩ (.cons ⟨rfl,rfl,rfl,a8.nil _ _ _ _ _⟩ (.cons ⟨rfl,rfl,rfl,bV (enc:=cD) (T:=3) [0] (hk _ (.tail _ (.tail _ (.tail _ (.tail _ (.tail _ (.tail _ (.tail _ (.head _))))))))) (fun _ _=>rfl)⟩ (.cons ⟨rfl,rfl,rfl,a8.nil _ _ _ _ _⟩ (.cons ⟨rfl,rfl,rfl,bV (enc:=cD) (T:=3) [3] (hk _ (.tail _ (.tail _ (.tail _ (.tail _ (.tail _ (.tail _ (.tail _ (.tail _ (.head _)))))))))) (fun _ _=>rfl)⟩ (.cons ⟨rfl,rfl,rfl,a8.nil _ _ _ _ _⟩ .nil)))))⟩,
  .cons ⟨rfl,rfl,rfl⟩ (.cons ⟨rfl,rfl,rfl⟩ (.cons ⟨rfl,rfl,rfl⟩ (.cons ⟨rfl,rfl,rfl⟩ (.cons ⟨rfl,rfl,rfl⟩ (.cons ⟨rfl,rfl,rfl⟩ .nil))))),
  bV (enc:=fW) (T:=84) [⟨(bs [121]),(bs [105])⟩] (hk _ (.tail _ (.tail _ (.tail _ (.tail _ (.tail _ (.tail _ (.tail _ (.tail _ (.tail _ (.head _))))))))))) (fun _ _=>rfl),bV (enc:=di) (T:=44) Pf (hk _ (.tail _ (.tail _ (.tail _ (.tail _ (.tail _ (.tail _ (.tail _ (.tail _ (.tail _ (.tail _ (.head _)))))))))))) (fun _ _=>rfl),bV (enc:=di) (T:=44) Pg (hk _ (.tail _ (.tail _ (.tail _ (.tail _ (.tail _ (.tail _ (.tail _ (.tail _ (.tail _ (.tail _ (.tail _ (.head _))))))))))))) (fun _ _=>rfl),a8.nil _ _ _ _ _⟩
theorem M7(oF J0 b9 AJ sE sJ CG:Nat)(n:Int):Jz (aX n) (EW oF J0 b9 AJ sE sJ CG n):=
 ⟨_,_,_,_,_,_,_,_,none,0,rfl,qn rfl rfl rfl rfl rfl rfl rfl rfl⟩
theorem Na{n:Int}:dQ zT 34 [zI n] ro [] (fun r Y=>∃l,r= .agg ⟨l⟩∧(∀aC,Knows aC Y→eR aC l (aX n))∧Jz (aX n) l):=by
 refine zE<|zD 2<|jn fun b2=>zD 7<|jn fun b9=>jp (vs:=[.string (bs [98,97,107,101,114]),zI 1,zS]) [] [] (fun aF hs hZ=>cIs)<|jp (vs:=[.string (bs [98,111,110,110,101,116,115]),zI 3]) [] [] (fun aF hs hZ=>aHM)<|jn fun xv=>jp (vs:=[.string (bs [99,111,110,102,101,99,116,105,111,110,101,114]),zI 0,.slice (some ⟨xv,0,none⟩) 1 1]) [] [] (fun aF hs hZ=>cIs)<|jp (vs:=[.string (bs [104,97,116,116,101,114]),zI 3,zS]) [] [] (fun aF hs hZ=>cIs)<|jn fun Jr=>jp (vs:=[.string (bs [109,101,114,99,101,114]),zI 2,.slice (some ⟨Jr,0,none⟩) 1 1]) [] [] (fun aF hs hZ=>cIs)<|jp (vs:=[.string (bs [109,105,108,108,105,110,101,114]),zI 1]) [] [] (fun aF hs hZ=>aHM)<|jn fun AJ=>zD 1<|jn fun b3=>jd 6 [0]<|jn fun Pt=>zD 1<|jn fun Jp=>jn fun oF=>zD 3<|jn fun b29=>zD 1<|jn fun J0=>zD 1<|jn fun b4=>jd 8 [0,0,6]<|jp (vs:=[.string (bs [115,109,105,116,104]),zI 0,zI 1,zI 0]) [] [] (fun aF hs hZ=>cAt)<|jp (vs:=[.string (bs [97,110,110,97]),zI 0,zI 2,zI 3]) [] [] (fun aF hs hZ=>cAt)<|jp (vs:=[.string (bs [115,109,121,116,104]),zI 1,zI 1,zI 2]) [] [] (fun aF hs hZ=>cAt)<|jp (vs:=[.string (bs [115,109,121,116,104]),zI 0,zI 2,zI 0]) [] [] (fun aF hs hZ=>cAt)<|jp (vs:=[.string (bs [115,109,105,116,104]),zI 1,zI 1,zI (-1)]) [] [] (fun aF hs hZ=>cAt)<|jp (vs:=[.string (bs [98,101,110]),zI 0,zI 1,zI 4]) [] [] (fun aF hs hZ=>cAt)<|Gm [3,7,11] ⟨fun z1 t2 qM=>?_,fun z4 t5 hL6=>?_,fun z7 t8 KD=>?_,trivial⟩
 ·
  refine jn fun sE=>ep qM (zN 1 12)<|Gm [7,11] ⟨fun z10 t11 wP=>?_,fun z13 t14 aiX=>?_,trivial⟩
  ·
   refine jn fun sJ=>ep wP (zN 1 13)<|aS 11 fun ap5 aqs FM=>jn fun CG=>ep FM (zN 1 14)<|zD 1<|aS 14 fun Xp XE DK=>jd 1 [14]<|gA DK<|zD 2<|zR (.agg ⟨EW oF J0 b9 AJ sE sJ CG n⟩) [14] [6,8,7,4,5,13,10,12,11,2,1,0] (I5 oF Pt Jp J0 b29 b9 AJ xv Jr sE sJ CG) ⟨_,rfl,fun _ hk=>M6 hk,M7 _ _ _ _ _ _ _ _⟩
  refine jn fun CG=>ep aiX (zN 1 13)<|aS 7 fun adr aeh OP=>jn fun sJ=>ep OP (zN 1 14)<|zD 1<|aS 14 fun adq aeg OO=>jd 1 [14]<|gA OO<|zD 2<|zR (.agg ⟨EW oF J0 b9 AJ sE sJ CG n⟩) [14] [6,8,7,4,5,13,10,12,11,2,0,1] (I5 oF Pt Jp J0 b29 b9 AJ xv Jr sE sJ CG) ⟨_,rfl,fun _ hk=>M6 hk,M7 _ _ _ _ _ _ _ _⟩
 ·
  refine jn fun sJ=>ep hL6 (zN 1 12)<|Gm [3,11] ⟨fun z20 t21 Wl=>?_,fun z23 t24 OL=>?_,trivial⟩
  ·
   refine jn fun sE=>ep Wl (zN 1 13)<|aS 11 fun Xo XB BS=>jn fun CG=>ep BS (zN 1 14)<|zD 1<|aS 14 fun KS K0 DJ=>jd 1 [14]<|gA DJ<|zD 2<|zR (.agg ⟨EW oF J0 b9 AJ sE sJ CG n⟩) [14] [6,8,7,4,5,13,10,12,11,1,2,0] (I5 oF Pt Jp J0 b29 b9 AJ xv Jr sE sJ CG) ⟨_,rfl,fun _ hk=>M6 hk,M7 _ _ _ _ _ _ _ _⟩
  refine jn fun CG=>ep OL (zN 1 13)<|aS 3 fun Qa Qx Iw=>jn fun sE=>ep Iw (zN 1 14)<|zD 1<|aS 14 fun P9 Qw Iv=>jd 1 [14]<|gA Iv<|zD 2<|zR (.agg ⟨EW oF J0 b9 AJ sE sJ CG n⟩) [14] [6,8,7,4,5,13,10,12,11,0,2,1] (I5 oF Pt Jp J0 b29 b9 AJ xv Jr sE sJ CG) ⟨_,rfl,fun _ hk=>M6 hk,M7 _ _ _ _ _ _ _ _⟩
 refine jn fun CG=>ep KD (zN 1 12)<|Gm [3,7] ⟨fun z30 t31 Wj=>?_,fun z33 t34 aiU=>?_,trivial⟩
 ·
  refine jn fun sE=>ep Wj (zN 1 13)<|aS 7 fun adn aed OJ=>jn fun sJ=>ep OJ (zN 1 14)<|zD 1<|aS 14 fun adm aec Wi=>jd 1 [14]<|gA Wi<|zD 2<|zR (.agg ⟨EW oF J0 b9 AJ sE sJ CG n⟩) [14] [6,8,7,4,5,13,10,12,11,1,0,2] (I5 oF Pt Jp J0 b29 b9 AJ xv Jr sE sJ CG) ⟨_,rfl,fun _ hk=>M6 hk,M7 _ _ _ _ _ _ _ _⟩
 refine jn fun sJ=>ep aiU (zN 1 13)<|aS 3 fun ap0 aqn aiT=>jn fun sE=>ep aiT (zN 1 14)<|zD 1<|aS 14 fun apZ aqm aiS=>jd 1 [14]<|gA aiS<|zD 2<|zR (.agg ⟨EW oF J0 b9 AJ sE sJ CG n⟩) [14] [6,8,7,4,5,13,10,12,11,0,1,2] (I5 oF Pt Jp J0 b29 b9 AJ xv Jr sE sJ CG) ⟨_,rfl,fun _ hk=>M6 hk,M7 _ _ _ _ _ _ _ _⟩
instance (nc nh i:Nat)(x:cy):Decidable (gZ nc nh i x):=by unfold gZ;infer_instance
instance (w:ByteArray):Decidable (Script w):=by unfold Script;infer_instance
theorem W6{p:Nat→α→Prop}{l:List α}(h:∀i (hi:i <l.length),p i l[i]):∀(i:Nat) (x:α),l[i]?=some x→p i x:=fun i x hx=>by
 obtain⟨h1,rfl⟩:=List.getElem?_eq_some_iff.1 hx
 exact h i h1
theorem I4:∀(i:Nat) (x:cy),D6[i]?=some x→gZ 4 6 i x:=W6 (by decide)
theorem WQ:∀(i:Nat) (x:cy),D6[i]?=some x→A7 x.word=true:=W6 (of_decide_eq_true (by kernel_rfl))
theorem akl:∀(i:Nat) (x:bO),WR[i]?=some x→A7 x.name=true∧ -1≤x.under∧x.under <i:=W6 (of_decide_eq_true (by kernel_rfl))
def aws(hd:List cy)(i:Int):Bool:=decide (i= -1)||(decide (0≤i)&&match hd[i.toNat]? with
 |some x=>decide (0≤x.cls)
 |none=>false)
theorem fC{i:Int}(h:aws hd i=true):ou hd i:=by
 simp only[aws,Bool.or_eq_true,Bool.and_eq_true,decide_eq_true_eq] at h
 rcases h with h| ⟨h1,h2⟩
 ·exact .inl h
 split at h2
 ·rename_i x hx;exact .inr ⟨h1,x,hx,of_decide_eq_true h2⟩
 cases h2
def Rc(p:aB):Bool:=decide (((1≤p.name.size∧p.name.size≤6)∧Script p.name)∧(0≤p.st∧p.st≤1)∧p.bold=false)&&aws D6 p.head
theorem NY{p:aB}(h:Rc p=true):GA D6 p:=by
 simp only[Rc,Bool.and_eq_true,decide_eq_true_eq] at h
 exact⟨h.1.1,fC h.2,h.1.2⟩
theorem afg{p:aB}(h:Rc p=true):rV p.name∧ou D6 p.head:=by
 have:=NY h
 exact⟨⟨this.1.1,this.1.2⟩,this.2.1⟩
theorem ZV:∀p∈Pf,Rc p=true:=by decide
theorem ZW:∀p∈Pg,Rc p=true:=by decide
abbrev EX(n:Int)(fs:List bK):aE:={aX n with facts:=fs}
theorem asd{n:Int}(h:0≤n∧n≤4)(hf:fs.length≤3)(h1:∀x∈fs,(0≤x.a∧x.a <3)∧(0≤x.b∧x.b <3))(h2:fs.Pairwise fun x y=>¬(x.a=y.a∧x.b=y.b)):jm (EX n fs) where
 m8:=⟨rfl,by simp,by simp[Cm],by simp[amR]⟩
 ways:=⟨(by decide:(1:Nat)≤1),by simp[j5]⟩
 cX:=⟨(by decide:(0:Nat) <4∧4≤6),(by decide:(6:Nat)≤6),I4⟩
 rules:=(by decide:(1:Nat)≤4)
 before:=⟨(by decide:(3:Nat)≤4),fun p hp=>⟨NY (ZV p hp),by
  simp only[Pf,List.mem_cons,List.not_mem_nil,or_false] at hp
  rcases hp with rfl|rfl|rfl
  ·exact⟨_,rfl,by simp⟩
  ·exact⟨_,rfl,by simp⟩
  exact⟨_,rfl,by simp⟩⟩⟩
 after:=⟨(by decide:(3:Nat)≤4),fun p hp=>⟨NY (ZW p hp),by
  simp only[Pg,List.mem_cons,List.not_mem_nil,or_false] at hp
  rcases hp with rfl|rfl|rfl<;>decide⟩⟩
 wE:=⟨(by decide:(0:Int)≤1∧(1:Int)≤4),(by decide:(0:Int)≤1∧(1:Int)≤4),h⟩
 facts:=⟨by show fs.length≤4;omega,h1⟩
 apart:=h2
theorem asb{n:Int}(hf:fs.length≤3)(h1:∀x∈fs,(0≤x.a∧x.a <3)∧(0≤x.b∧x.b <3)):eH (EX n fs) where
 rules:=⟨(by decide:(1:Nat)≤4),by
  intro r hr
  rw[List.mem_singleton] at hr;subst hr
  have e:XX ⟨bs [121],bs [105]⟩=true:=by kernel_rfl
  simp only[XX,Bool.and_eq_true,Nat.ble_eq,Bool.not_eq_true'] at e
  exact⟨e.1,e.2.1,HD e.2.2.1,HD e.2.2.2.1,e.2.2.2.2⟩⟩
 before:=⟨(by decide:(3:Nat)≤4),fun p hp=>afg (ZV p hp)⟩
 after:=⟨(by decide:(3:Nat)≤4),fun p hp=>afg (ZW p hp)⟩
 cX:=⟨(by decide:(0:Nat) <4∧4≤6),(by decide:(6:Nat)≤6),akl,by simp only[Bo];decide,fun i x hx=>⟨WQ i x hx,I4 i x hx⟩,by simp only[Bo,QH];decide⟩
 facts:=⟨by show fs.length≤4;omega,h1⟩
theorem aHK{v0 v1 v3 v4 v5 v6 v7 vb:Value}{fa fb:Option Addr}{fn fd:Nat}{g0 g1 g2:Int}(hs:∀v∈[v0,v1,(.slice fa 0 fc),v3,v4,v5,v6,v7,zI g0,zI g1,zI g2,(.slice fb fn fd)],single v=true):dv zT 38 [.agg ⟨[v0,v1,(.slice fa 0 fc),v3,v4,v5,v6,v7,zI g0,zI g1,zI g2,vb]⟩,(.slice fb fn fd)] ro (.agg ⟨[v0,v1,(.slice fa 0 fc),v3,v4,v5,v6,v7,zI g0,zI g1,zI g2,(.slice fb fn fd)]⟩):=by
 refine zE<|zD 2<|jn fun b2=>jn fun b4=>jd 10 [1,1]<|PS 0 b4 0 zO [v0,v1,(.slice fa 0 fc),v3,v4,v5,v6,v7,zI g0,zI g1,zI g2,(.slice fb fn fd)] 40 hs rfl<|zD 2<|zR (.agg ⟨[v0,v1,(.slice fa 0 fc),v3,v4,v5,v6,v7,zI g0,zI g1,zI g2,(.slice fb fn fd)]⟩) [0] [] [] ⟨rfl,rfl⟩
end Go.L
