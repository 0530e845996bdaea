/- Part 10 of the proof. -/
import Derived.Test.YtfhaegdkhpdedaaGreatDoorS9
set_option maxRecDepth 100000
set_option maxHeartbeats 4000000
set_option linter.all false
namespace Go.L
open Go Go.Conc Go.Proofs
variable {ro:Nat→Option Obj} {F:List (Int×Value)} {xs ys zs ds:List Int} {u vd:Value} {l fi ca:List Value} {Hb d ck n b1 p j b2 np b3 ne sz:Nat} {κ α:Type} {seen:List Nat} {x b y f D i need nm:Int} {ps:List ByteArray}
def SH{n lo hi:Int}:iI zT 108 [zI n,zI lo,zI hi] ro (.bool (pE n lo hi)):=by
 refine zE<|zD 10<|jj 4 [(6,.bool false),(14,.bool ((decide (lo<=n))&&(decide (n<=hi))))] (λoX=>?_) (λhj=>?_);rotate_left;refine js 10 (decide (lo<=n)) (λh1=>?_) (λh1=>?_)
 ·
  have lF:=h1;replace lF:=ah lF;refine zD 4<|zxw 14 hj (zya h1)
 ·
  have lF:=h1;replace lF:=af lF;refine zD 4<|zxw 14 hj (zyb h1)
 refine zD 3<|zX _ ⟨rfl,rfl⟩
def aGr{v:Value}{w:ByteArray}(hp:dk ro v 1 mG ps)(hn:ps.length<=1000):iI zT 183 [v,.string w] ro (zI (bM (jQ w) ps 0)):=by
 obtain⟨gX,xY,xX,gF,rfl,A2,xk,xj⟩:=hp;refine zE<|zD 12<|iz [1,0,1,0,0] [] (λ(zz:Nat)=>[(0,.slice gX ps.length gF),(1,.string w),(7,zI (ps.length:Int)),(8,zI (zz:Int))]) (λzz=>[]) (λzz=>zz<=ps.length/\bM (jQ w) ps 0=bM (jQ w) (ps.drop zz) zz) (λzz=>ps.length-zz) 0 ⟨by omega,rfl⟩ [] ?_;rintro k hI K1 cU rest;refine zD 5<|zJ 9 ((k:Int) <(ps.length:Int)) (λh1=>?_) λh1=>?_
 ·
  refine zD 14<|zxt ps k gF 1 xk xj λvt iD=>zD 2<|js 16 (jQ w vt) (λh2=>?_) (λh2=>?_)
  ·
   refine zD 7<|zX (zI (k:Int)) ⟨by rw[hI.2,pZ iD,show jQ w vt=true from (by assumption)];rfl,rfl⟩
  refine zD 3<|zW ((k:Int)+1)<|zD 2<|zY cU (k+1) ⟨by omega,by rw[hI.2,pZ iD,show jQ w vt=false from (by assumption)];rfl⟩ []
 refine zD 7<|zX (zI (-1)) ⟨by rw[hI.2,Bj (by omega)],rfl⟩
def axy{v:Value}{w:ByteArray}(hp:dk ro v 1 mG ps)(hn:ps.length<=1000):iI zT 139 [v,.string w] ro (.bool (decide (bM (jQ w) ps 0>=0))):=by
 obtain⟨gX,xY,xX,gF,rfl,A2,xk,xj⟩:=hp;refine zE<|zD 8<|zxp [.slice gX ps.length gF,.string w] (λhs=>aGr ((show dk _ _ _ _ _ from ⟨gX,xY,xX,gF,rfl,A2,xk,xj⟩).up hs) (by first|omega| (simp only[aM,zM];omega))) ?_;refine zD 4<|zX _ ⟨rfl,rfl⟩
def bdb{w:ByteArray}(hw:nz w):iI zT 138 [.string w] ro (.tuple ⟨[.string (keyOf w),zI 0]⟩):=by
 refine zE<|zD 9<|zxp [.string w] (λhs=>(aea hw.n hw.s))<|zD 12<|zxp [.string w] (λhs=>(nOf hw))<|zD 4<|zX _ ⟨rfl,rfl⟩
def aw6{v:Value}{S:List (List au)}(hS:bH ro v S)(hO:cq S):eT zT 107 [.agg ⟨[v]⟩] ro [] (λr Y=>bI r 3 41 bO (aH S) Y):=by
 obtain⟨ws,ht,dY⟩:=hS;obtain⟨fZ,xg,xe,eR,rfl,xf,ou,oh⟩:=ht;have Ar:=dY.len;have nI:=hO.two;refine zE<|zD 2<|jn λb1=>jd 15 [0]<|uI<|iz [1,1,0,1,0,0] [] (λ(zz:Nat×Value×Cells)=>[(2,zS),(3,zz.2.1),(9,.slice fZ ws.length eR),(10,zI (ws.length:Int)),(11,zI (zz.1:Int))]) (λzz=>[.l zz.2.2,zxc b1 24 [.slice fZ ws.length eR]]) (λzz=>zz.1<=ws.length/\bI zz.2.1 3 41 bO (Dl S zz.1) zz.2.2) (λzz=>ws.length-zz.1) (⟨0,zS,[]⟩) ⟨by dsimp only;omega,bI.nil _ _ _⟩ [0,1] ?_;rintro⟨k,vO,LO⟩ hI K1 cU rest;dsimp only at hI;refine zD 5<|zJ 12 ((k:Int) <(ws.length:Int)) (λh1=>?_) λh1=>?_
 ·
  refine zD 7<|zxs ws k eR 1 ou (λvt iD=>?_);obtain⟨Di,KN,NN⟩:=dY.get iD;obtain aHI:=hO.len _ (zL KN);obtain⟨Px,aod,aob,Ib,rfl,aoc,ZA,Zz⟩:=NN;refine jl 0 (oh _ _ iD)<|zD 10<|iz [1,1,0,1,0,0,1,1,0,0,1,1,0,0] [K1] (λ(zz:Nat×Value×Cells)=>[(2,zS),(3,zz.2.1),(4,zI (k:Int)),(9,.slice fZ ws.length eR),(10,zI (ws.length:Int)),(11,zI (k:Int)),(16,.slice Px Di.length Ib),(17,zI (Di.length:Int)),(18,zI (zz.1:Int))]) (λzz=>[.l zz.2.2,zxc b1 24 [.slice fZ ws.length eR]]) (λzz=>zz.1<=Di.length/\bI zz.2.1 3 41 bO (Dl S k++(Di.take zz.1).map (eV k)) zz.2.2) (λzz=>Di.length-zz.1) (⟨0,vO,LO⟩) ⟨by dsimp only;omega,by simpa using hI.2⟩ [0,1] ?_;rintro⟨i,vO,LO⟩ hJ K2 kU rest;dsimp only at hJ;refine zD 5<|zJ 19 ((i:Int) <(Di.length:Int)) (λh2=>?_) λh2=>?_
  ·
   refine zD 6<|zxt Di i Ib 2 ZA Zz λtP tZ=>jn λb7=>jd 7 [0,0]<|jn λb26=>zxl bO b26 (⟨(k:Int),tP.n,tP.l⟩:ak) 2 0 (hJ.2) (λaDP aDI L27 Qn=>?_) (hb:=by have:=Fe hO k;simp only[aL,dE,cH,aJ,aO];omega);refine zD 3<|zW ((i:Int)+1)<|zD 2<|zF kU (⟨i+1,(.slice aDP (((Dl S k++(Di.take i).map (eV k))++[(⟨(k:Int),tP.n,tP.l⟩:ak)])).length aDI),L27⟩) (by rw[c8 tZ,cw,<-bx];exact Qn) [0,3]
  refine zD 3<|zW ((k:Int)+1)<|zD 2<|zF cU (⟨k+1,vO,LO⟩) (by rw[Qg KN];have:=hJ.2;rwa[bF (by omega)] at this) [0,1]
 refine zD 8<|zR _ [] [0] LO (by have:=hI.2;rwa[show k=S.length by omega] at this)
def gJ(D:Int)(x:fN):Int:=bif !pE x.low 0 (D-1)|| !pE x.high 0 (D-1) then 1 else bif decide (x.low>x.high) then 5 else 0
def iY(ns:Nat)(hs:List ak)(D:Int)(x:fN):Int:=
 bif x.late then (bif !pE x.st 0 ((ns:Int)-1) then 3 else bif !pE x.no 1 40|| !pE x.lt 0 4 then 1 else gJ D x)
 else bif !decide (bM (uh x.st x.no x.lt) hs 0>=0) then 3 else gJ D x
def aw8{W:kg}{ws:List Value}{hs:List ak}{x:fN}(hH0:ro Hb=some (.cells ⟨W.cells u⟩ 113 (0,0)))(ht0:dk ro W.a0 1 qa ws)(hh0:dk ro (.slice W.ha W.H W.iK) 3 bO hs)(hnt:ws.length<=1000)(hnh:hs.length<=1000)(hD:1<=W.D/\W.D<=4)(hx:nz x.name):iI zT 83 [zP Hb,.agg ⟨[.string x.name,zI x.st,zI x.no,zI x.lt,.bool x.late,zI x.low,zI x.high]⟩] ro (zI (iY ws.length hs W.D x)):=by
 obtain⟨fZ,xg,xe,eR,wH,xf,ou,oh⟩:=ht0;obtain⟨rE,Zx,Zv,qV,Qv,Zw,VK,VJ⟩:=hh0;have hH:ro Hb=some (.cells ⟨[.slice fZ ws.length eR,W.a1,W.a2,W.a3,W.a4,zI W.D,zI W.S,W.a7,.slice rE hs.length qV,u,W.LJ]⟩ 113 (0,0)):=by rw[<-wH,<-Qv];exact hH0
 refine zE<|zD 2<|jn λb3=>jd 7 [0]<|zxp [.string x.name] (λhs=>(aea hx.n hx.s))<|jd 15 [0]<|js 14 x.late (λh1=>?_) (λh1=>?_)
 ·
  refine jd 13 [0]<|jl (b:=Hb) (off:=0) (m:=11) (vs:=[.slice fZ ws.length eR,W.a1,W.a2,W.a3,W.a4,zI W.D,zI W.S,W.a7,.slice rE hs.length qV,u,W.LJ]) 0 ⟨_,_,_,.inl hH,rfl⟩<|zD 1<|zW ((ws.length:Int)-1)<|zxp [zI x.st,zI 0,zI ((ws.length:Int)-1)] (λhs=>SH)<|zD 2<|js 28 (!(pE x.st 0 ((ws.length:Int)-1))) (λh2=>?_) (λh2=>?_)
  ·
   try simp only[zB] at h2
   refine zD 6<|zX (zI 3) ⟨by first| (simp[iY,gJ, *];done)| (simp_all[iY,gJ];done)| (simp[iY,gJ, *];omega)| (rcases h4 with h4|h4<;>simp[iY,gJ, *]),rfl⟩
  try simp only[zB] at h2
  refine jd 7 [0]<|jn λb6=>jd 6 [0,0]<|zxp [zI x.no,zI 1,zI 40] (λhs=>SH)<|zD 2<|jj 5 [(0,zP Hb),(3,zP b3),(4,zI 0),(41,.bool ((!(pE x.no 1 40))||(!(pE x.lt 0 4))))] (λoX=>?_) (λhj=>?_);rotate_left;refine js 36 (!(pE x.no 1 40)) (λh3=>?_) (λh3=>?_)
  ·
   have yW:=h3
   try simp only[zB] at yW
   refine zD 5<|zxw 41 hj (zyc h3)
  ·
   have yW:=h3
   try simp only[zB] at yW
   refine jd 2 [0]<|zxp [zI x.lt,zI 0,zI 4] (λhs=>SH)<|zD 2<|zxw 41 hj (zyd h3)
  refine zD 1<|js 41 ((!(pE x.no 1 40))||(!(pE x.lt 0 4))) (λh4=>?_) (λh4=>?_)
  ·
   try simp only[zB] at h4
   refine zD 6<|zX (zI 1) ⟨by first| (simp[iY,gJ, *];done)| (simp_all[iY,gJ];done)| (simp[iY,gJ, *];omega)| (rcases h4 with h4|h4<;>simp[iY,gJ, *]),rfl⟩
  try simp only[zB] at h4
  refine jd 12 [1]<|jl (b:=Hb) (off:=0) (m:=11) (vs:=[.slice fZ ws.length eR,W.a1,W.a2,W.a3,W.a4,zI W.D,zI W.S,W.a7,.slice rE hs.length qV,u,W.LJ]) 5 ⟨_,_,_,.inl hH,rfl⟩<|zW (W.D-1)<|zxp [zI x.low,zI 0,zI (W.D-1)] (λhs=>SH)<|zD 2<|js 10 (!(pE x.low 0 (W.D-1))) (λh5=>?_) (λh5=>?_)
  ·
   have IP:=h5
   try simp only[zB] at IP
   refine zD 19<|zX (zI 1) ⟨by first| (simp[iY,gJ, *];done)| (simp_all[iY,gJ];done)| (simp[iY,gJ, *];omega)| (rcases h4 with h4|h4<;>simp[iY,gJ, *]),rfl⟩
  have IP:=h5
  try simp only[zB] at IP
  refine jd 6 [1]<|jl (b:=Hb) (off:=0) (m:=11) (vs:=[.slice fZ ws.length eR,W.a1,W.a2,W.a3,W.a4,zI W.D,zI W.S,W.a7,.slice rE hs.length qV,u,W.LJ]) 5 ⟨_,_,_,.inl hH,rfl⟩<|zW (W.D-1)<|zxp [zI x.high,zI 0,zI (W.D-1)] (λhs=>SH)<|zD 4<|js 50 (!(pE x.high 0 (W.D-1))) (λh6=>?_) (λh6=>?_)
  ·
   try simp only[zB] at h6
   refine zD 6<|zX (zI 1) ⟨by first| (simp[iY,gJ, *];done)| (simp_all[iY,gJ];done)| (simp[iY,gJ, *];omega)| (rcases h4 with h4|h4<;>simp[iY,gJ, *]),rfl⟩
  try simp only[zB] at h6
  refine jd 10 [1,1]<|zJ 73 (x.low>x.high) (λh7=>?_) λh7=>?_
  ·
   refine zD 6<|zX (zI 5) ⟨by first| (simp[iY,gJ, *];done)| (simp_all[iY,gJ];done)| (simp[iY,gJ, *];omega)| (rcases h4 with h4|h4<;>simp[iY,gJ, *]),rfl⟩
  refine zD 7<|zX (zI 0) ⟨by first| (simp[iY,gJ, *];done)| (simp_all[iY,gJ];done)| (simp[iY,gJ, *];omega)| (rcases h4 with h4|h4<;>simp[iY,gJ, *]),rfl⟩
 refine zD 6<|jl (b:=Hb) (off:=0) (m:=11) (vs:=[.slice fZ ws.length eR,W.a1,W.a2,W.a3,W.a4,zI W.D,zI W.S,W.a7,.slice rE hs.length qV,u,W.LJ]) 8 ⟨_,_,_,.inl hH,rfl⟩<|jd 2 [0]<|zxp [.slice rE hs.length qV,.agg ⟨[zI x.st,zI x.no,zI x.lt]⟩] (λhs=>T6 ((show dk _ _ _ _ _ from ⟨rE,Zx,Zv,qV,rfl,Zw,VK,VJ⟩).up hs) (by first|omega| (simp only[aM,zM];omega))) ?_;refine zD 2<|js 49 (!(decide (bM (uh x.st x.no x.lt) hs 0>=0))) (λh8=>?_) (λh8=>?_)
 ·
  try simp only[zB] at h8
  refine zD 6<|zX (zI 3) ⟨by first| (simp[iY,gJ, *];done)| (simp_all[iY,gJ];done)| (simp[iY,gJ, *];omega)| (rcases h4 with h4|h4<;>simp[iY,gJ, *]),rfl⟩
 try simp only[zB] at h8
 refine jd 12 [0]<|jl (b:=Hb) (off:=0) (m:=11) (vs:=[.slice fZ ws.length eR,W.a1,W.a2,W.a3,W.a4,zI W.D,zI W.S,W.a7,.slice rE hs.length qV,u,W.LJ]) 5 ⟨_,_,_,.inl hH,rfl⟩<|zW (W.D-1)<|zxp [zI x.low,zI 0,zI (W.D-1)] (λhs=>SH)<|zD 2<|js 10 (!(pE x.low 0 (W.D-1))) (λh9=>?_) (λh9=>?_)
 ·
  have h9g:=h9
  try simp only[zB] at h9g
  refine zD 19<|zX (zI 1) ⟨by first| (simp[iY,gJ, *];done)| (simp_all[iY,gJ];done)| (simp[iY,gJ, *];omega)| (rcases h4 with h4|h4<;>simp[iY,gJ, *]),rfl⟩
 have h9g:=h9
 try simp only[zB] at h9g
 refine jd 6 [0]<|jl (b:=Hb) (off:=0) (m:=11) (vs:=[.slice fZ ws.length eR,W.a1,W.a2,W.a3,W.a4,zI W.D,zI W.S,W.a7,.slice rE hs.length qV,u,W.LJ]) 5 ⟨_,_,_,.inl hH,rfl⟩<|zW (W.D-1)<|zxp [zI x.high,zI 0,zI (W.D-1)] (λhs=>SH)<|zD 4<|js 50 (!(pE x.high 0 (W.D-1))) (λwq=>?_) (λwq=>?_)
 ·
  try simp only[zB] at wq
  refine zD 6<|zX (zI 1) ⟨by first| (simp[iY,gJ, *];done)| (simp_all[iY,gJ];done)| (simp[iY,gJ, *];omega)| (rcases h4 with h4|h4<;>simp[iY,gJ, *]),rfl⟩
 try simp only[zB] at wq
 refine jd 10 [0,0]<|zJ 73 (x.low>x.high) (λyX=>?_) λyX=>?_
 ·
  refine zD 6<|zX (zI 5) ⟨by first| (simp[iY,gJ, *];done)| (simp_all[iY,gJ];done)| (simp[iY,gJ, *];omega)| (rcases h4 with h4|h4<;>simp[iY,gJ, *]),rfl⟩
 refine zD 7<|zX (zI 0) ⟨by first| (simp[iY,gJ, *];done)| (simp_all[iY,gJ];done)| (simp[iY,gJ, *];omega)| (rcases h4 with h4|h4<;>simp[iY,gJ, *]),rfl⟩
def abQ:List ByteArray->List ByteArray->Bool
 |_,[]=>false
 |ks,w::l=>decide (bM (jQ (keyOf w)) ks 0>=0)||abQ (ks++[keyOf w]) l
def DK(xs:List ByteArray):Int:=bif decide ((xs.length:Int)=0) then 7 else bif decide ((xs.length:Int)>3) then 6 else bif abQ [] xs then 4 else 0
theorem aif{l:List ByteArray}{ks:List ByteArray}{k:Nat}{w:ByteArray}(h:l[k]?=some w):abQ ks (l.drop k)=(decide (bM (jQ (keyOf w)) ks 0>=0)||abQ (ks++[keyOf w]) (l.drop (k+1))):=by rw[lB h];rfl
def aw4{W:kg}{xs:List ByteArray}(hH0:ro Hb=some (.cells ⟨W.cells u⟩ 113 (0,0)))(HJ:dk ro W.a3 1 mG xs)(KJ:xs.length<=1000)(xO:∀w∈xs,nz w):iI zT 106 [zP Hb] ro (zI (DK xs)):=by
 obtain⟨qi,Yh,Yf,qd,zh,Yg,VI,VH⟩:=HJ;have hH:ro Hb=some (.cells ⟨[W.a0,W.a1,W.a2,.slice qi xs.length qd,W.a4,zI W.D,zI W.S,W.a7,(.slice W.ha W.H W.iK),u,W.LJ]⟩ 113 (0,0)):=by rw[<-zh];exact hH0
 refine zE<|zD 11<|jl (b:=Hb) (off:=0) (m:=11) (vs:=[W.a0,W.a1,W.a2,.slice qi xs.length qd,W.a4,zI W.D,zI W.S,W.a7,(.slice W.ha W.H W.iK),u,W.LJ]) 3 ⟨_,_,_,.inl hH,rfl⟩<|zD 3<|zJ 14 ((xs.length:Int)=0) (λh1=>?_) λh1=>?_
 ·
  refine zD 6<|zX (zI 7) ⟨by rw[DK,cN (by omega)];rfl,rfl⟩
 refine zD 9<|jl (b:=Hb) (off:=0) (m:=11) (vs:=[W.a0,W.a1,W.a2,.slice qi xs.length qd,W.a4,zI W.D,zI W.S,W.a7,(.slice W.ha W.H W.iK),u,W.LJ]) 3 ⟨_,_,_,.inl hH,rfl⟩<|zD 3<|zJ 21 ((xs.length:Int)>3) (λh2=>?_) λh2=>?_
 ·
  refine zD 6<|zX (zI 6) ⟨by rw[DK,cX (by omega),cN (by omega)];rfl,rfl⟩
 refine zD 13<|jl (b:=Hb) (off:=0) (m:=11) (vs:=[W.a0,W.a1,W.a2,.slice qi xs.length qd,W.a4,zI W.D,zI W.S,W.a7,(.slice W.ha W.H W.iK),u,W.LJ]) 3 ⟨_,_,_,.inl hH,rfl⟩<|zD 4<|uI<|iz [1,1,1,1,0,1,0,0] [] (λ(zz:Nat×Value×Cells×(List ByteArray))=>[(3,zz.2.1),(26,.slice qi xs.length qd),(27,zI (xs.length:Int)),(28,zI (zz.1:Int))]) (λzz=>[.l zz.2.2.1]) (λzz=>(zz.1<=xs.length/\zz.2.2.2.length=zz.1)/\bI zz.2.1 1 9 mG zz.2.2.2 zz.2.2.1/\DK xs=bif abQ zz.2.2.2 (xs.drop zz.1) then 4 else 0) (λzz=>xs.length-zz.1) (⟨0,zS,[],[]⟩) ⟨⟨Nat.zero_le _,rfl⟩,bI.nil _ _ _,by dsimp only;rw[DK,decide_eq_false (by omega),decide_eq_false (by omega)];rfl⟩ [0] ?_;rintro⟨k,v,L,ks⟩ hI K1 cU rest;dsimp only at hI;refine zD 5<|zJ 29 ((k:Int) <(xs.length:Int)) (λh3=>?_) λh3=>?_
 ·
  refine zD 6<|zxt xs k qd 1 VI VH λFK tv=>zD 5<|zxp [.string FK] (λhs=>(bdb (xO _ (zL tv))))<|zD 19<|jp (vs:=[v,.string (keyOf FK)]) [0] L (λcK hs hZ=>axy (hI.2.1.ju hZ) (by first|omega| (simp only[aM,zM];omega))) ?_;refine zD 1<|js 42 (decide (bM (jQ (keyOf FK)) ks 0>=0)) (λh4=>?_) (λh4=>?_)
  ·
   refine zD 6<|zX (zI 4) ⟨by rw[hI.2.2,aif tv];simp[*],rfl⟩
  refine zD 5<|jn λb45=>zxl mG b45 (keyOf FK) 1 0 (hI.2.1) λbap aZ7 L46 aqp=>zD 3<|zW ((k:Int)+1)<|zD 2<|zY cU (⟨k+1,(.slice bap ((ks++[(keyOf FK)])).length aZ7),L46,(ks++[(keyOf FK)])⟩) ⟨⟨by dsimp only;omega,by simp only[zM];omega⟩,aqp,by dsimp only;rw[hI.2.2,aif tv];simp[*]⟩ [0]
 refine zD 7<|zX (zI 0) ⟨by rw[hI.2.2,Mi (by omega)];rfl,rfl⟩
def Qs(hs:List ak)(x:fN)(i:Int)(b:Bool):Int:=bif !x.late then bM (uh x.st x.no x.lt) hs 0 else bif b then i else-1
def aF5{r:Nat}{W:kg}{m0 m1 m2:Value}{hs:List ak}{x:fN}{es:Array MapEntry}{F:List (ak×Value)}{b:Bool}(hH0:ro Hb=some (.cells ⟨W.cells u⟩ 113 (0,0)))(hh0:dk ro (.slice W.ha W.H W.iK) 3 bO hs)(hnh:hs.length<=1000)(hr:ro r=some (.map es ck))(hE:wN mw F es ck)(hl:R5 (zI 0) true (⟨x.st,x.no,x.lt⟩:ak) F= .tuple ⟨[zI i,.bool b]⟩):iI zT 155 [zP Hb,.agg ⟨[(.map (some r)),m0,m1,m2]⟩,.agg ⟨[.string x.name,zI x.st,zI x.no,zI x.lt,.bool x.late,zI x.low,zI x.high]⟩] ro (zI (Qs hs x i b)):=by
 obtain⟨rE,Zx,Zv,qV,Qv,Zw,VK,VJ⟩:=hh0;have hH:ro Hb=some (.cells ⟨[W.a0,W.a1,W.a2,W.a3,W.a4,zI W.D,zI W.S,W.a7,.slice rE hs.length qV,u,W.LJ]⟩ 113 (0,0)):=by rw[<-Qv];exact hH0
 refine zE<|zD 2<|jn λb4=>jn λb5=>jd 9 [0]<|js 11 (!x.late) (λh1=>?_) (λh1=>?_)
 ·
  try simp only[zB] at h1
  refine zD 6<|jl (b:=Hb) (off:=0) (m:=11) (vs:=[W.a0,W.a1,W.a2,W.a3,W.a4,zI W.D,zI W.S,W.a7,.slice rE hs.length qV,u,W.LJ]) 8 ⟨_,_,_,.inl hH,rfl⟩<|jd 2 [0]<|zxp [.slice rE hs.length qV,.agg ⟨[zI x.st,zI x.no,zI x.lt]⟩] (λhs=>aaC ((show dk _ _ _ _ _ from ⟨rE,Zx,Zv,qV,rfl,Zw,VK,VJ⟩).up hs) (by first|omega| (simp only[aM,zM];omega))) ?_;refine zD 3<|zX (zI (bM (uh x.st x.no x.lt) hs 0)) ⟨by simp[Qs, *],rfl⟩
 try simp only[zB] at h1
 refine jd 9 [1,0]<|jlu (kv:=mw) (F:=F) (r:=r) (K:=41) (⟨x.st,x.no,x.lt⟩:ak) (zI 0) true [] [] wV (λs he _=>⟨_,_,he _ _ (.inl hr),hE⟩)<|jw 24 (.tuple ⟨[zI i,.bool b]⟩) hl<|zD 10<|js 27 b (λh2=>?_) (λh2=>?_)
 ·
  subst h2;refine zD 7<|zX (zI i) ⟨by simp[Qs, *],rfl⟩
 subst h2;refine zD 7<|zX (zI (-1)) ⟨by simp[Qs, *],rfl⟩
def NB:Nat->List Int->List Int
 |0,ys=>ys
 |j+1,ys=>if ys.getD (j+1) 0 <ys.getD j 0 then NB j ((ys.set (j+1) (ys.getD j 0)).set j (ys.getD (j+1) 0)) else ys
def OZ:Nat->Nat->List Int->List Int
 |0,_,ys=>ys
 |n+1,i,ys=>OZ n (i+1) (NB i ys)
def wS(xs:List Int):List Int:=OZ (xs.length-1) 1 xs
theorem ajX{j:Int}(h:¬j>0):NB j.toNat ys=ys:=by rw[show j.toNat=0 by omega];rfl
theorem ayp{i:Nat}(h:ys[i]?=some x):ys.getD i 0=x:=by grind
theorem ajY{j:Int}(hj:j>0)(hx:ys[j.toNat]?=some x) (hy:ys[(j-1).toNat]?=some y) (h:¬x <y):NB j.toNat ys=ys:=by
 have e:j.toNat=(j-1).toNat+1:=by omega
 rw[e] at hx ⊢;rw[NB,ayp hx,ayp hy,cy h]
theorem ahC{j x' y':Int}(hj:j>0)(hx:ys[j.toNat]?=some x) (hy:ys[(j-1).toNat]?=some y) (mO:ys[j.toNat]?=some x') (R7:ys[(j-1).toNat]?=some y') (h:x <y):NB j.toNat ys=NB (j-1).toNat ((ys.set j.toNat y').set (j-1).toNat x'):=by
 rw[hx] at mO;rw[hy] at R7;cases mO;cases R7;have e:j.toNat=(j-1).toNat+1:=by omega
 rw[e] at hx ⊢;rw[NB,ayp hx,ayp hy,dN h]
def XT(v:Value)(xs:List Int)(Y:Cells):Prop:=∃ys,(ys=wS xs/\ys.Perm xs)/\bI v 1 3 eC ys Y
def adr(h:wS xs=OZ (n-i.toNat) i.toNat ys)(hi:0<=i/\i <n):wS xs=OZ (n-(i+1).toNat) (i+1).toNat (NB i.toNat ys):=by
 rw[h,show n-i.toNat=(n-(i+1).toNat)+1 by omega,show (i+1).toNat=i.toNat+1 by omega];rfl
def aiY(h:wS xs=OZ (n-i.toNat) i.toNat ys)(hi:¬i <n):ys=wS xs:=by
 rw[h,show n-i.toNat=0 by omega];rfl
def aPX{a:Int}:iI zT 190 [zI a,zI b] ro (.bool (decide (a <b))):=by
 refine zE<|zD 7<|zxp [zI a] (λhs=>aJH)<|zD 13<|zX (.bool (decide (a <b))) ⟨by simp,rfl⟩
def bc4{v:Value}{L:Cells}(ho:bI v 1 3 eC xs L)(hN:xs.length<=12):eT zT 184 [v,zI 0,zI (xs.length:Int)] ro L (λr Y=>XT v xs Y):=by
 refine zC [.l L]<|zD 7<|iz [1,0,0] [] (λ(zz:Int×(List Int)×Cells)=>[(0,v),(1,zI 0),(2,zI (xs.length:Int)),(6,zI zz.1)]) (λzz=>[.l zz.2.2]) (λzz=>(1<=zz.1)/\bI v 1 3 eC zz.2.1 zz.2.2/\zz.2.1.Perm xs/\wS xs=OZ (xs.length-zz.1.toNat) zz.1.toNat zz.2.1) (λzz=>((xs.length:Int)-zz.1).toNat) (⟨1,xs,L⟩) ⟨by dsimp only;omega,ho,.refl _,rfl⟩ [0] ?_;rintro⟨i,ys,L⟩ hI K1 cU rest;dsimp only at hI;have hyl:=hI.2.2.1.length_eq;refine zD 7<|zJ 12 (i <(xs.length:Int)) (λh1=>?_) λh1=>?_
 ·
  refine zD 10<|iz [1,0,0,1,0,0,1,0,0] [K1] (λ(zz:Int×(List Int)×Cells)=>[(0,v),(1,zI 0),(2,zI (xs.length:Int)),(6,zI i),(7,zI zz.1)]) (λzz=>[.l zz.2.2]) (λzz=>(0<=zz.1/\zz.1<=i)/\bI v 1 3 eC zz.2.1 zz.2.2/\zz.2.1.Perm xs/\wS xs=OZ (xs.length-(i+1).toNat) (i+1).toNat (NB zz.1.toNat zz.2.1)) (λzz=>zz.1.toNat) (⟨i,ys,L⟩) ⟨by dsimp only;omega,hI.2.1,hI.2.2.1,adr hI.2.2.2 (by omega)⟩ [0] ?_;rintro⟨j,ys,L⟩ hJ K2 kU rest;dsimp only at hJ;have hyl:=hJ.2.2.1.length_eq;refine zD 7<|js 3 (decide (j>0)) (λh2=>?_) (λh2=>?_)
  ·
   have nu:=h2;replace nu:=ah nu;refine zD 2 ?_;obtain⟨Nm,jL⟩:=zG ys (j.toNat) (by first|omega| (simp only[aM];omega));refine zH j 1 hJ.2.1 jL λb22 bhi=>yL 0 [0] L (λs _ hZ=>kN hJ.2.1 bhi hZ jL)<|zD 2<|zW (j-1) ?_;obtain⟨x27,KB⟩:=zG ys ((j-1).toNat) (by first|omega| (simp only[aM];omega));refine zH (j-1) 1 hJ.2.1 KB λb27 bhg=>yL 0 [0] L (λs _ hZ=>kN hJ.2.1 bhg hZ KB)<|zxp [zI Nm,zI x27] (λhs=>aPX)<|zD 2<|js 30 (decide (Nm <x27)) (λh3=>?_) (λh3=>?_)
   ·
    refine zD 9<|zW (j-1)<|zD 2<|zW (j-1) ?_;obtain⟨x41,Wt⟩:=zG ys ((j-1).toNat) (by first|omega| (simp only[List.length_set];omega));refine zH (j-1) 1 hJ.2.1 Wt λb41 bhb=>yL 0 [0] L (λs _ hZ=>kN hJ.2.1 bhb hZ Wt)<|zD 2 ?_;obtain⟨xR,sN⟩:=zG ys (j.toNat) (by first|omega| (simp only[List.length_set];omega));refine zH j 1 hJ.2.1 sN λb45 ae8=>yL 0 [0] L (λs _ hZ=>kN hJ.2.1 ae8 hZ sN) ?_;obtain⟨x47,aj1⟩:=zG ys (j.toNat) (by first|omega| (simp only[List.length_set];omega));refine zH j 1 hJ.2.1 aj1 λb47 bg9=>zxo 15 λtx=>jso 0 0 [zI x41] x41 hJ.2.1 bg9 aj1 rfl rfl (Nat.le_of_ble_eq_true rfl) λL5 ho6=>ee tx [] ?_;obtain⟨x48,aj0⟩:=zG ((ys.set j.toNat x41)) ((j-1).toNat) (by first|omega| (simp only[List.length_set];omega));refine zH (j-1) 1 ho6 aj0 λb48 bg8=>zxo 17 λtw=>jso 0 0 [zI xR] xR ho6 bg8 aj0 rfl rfl (Nat.le_of_ble_eq_true rfl) λL8 ho9=>kA tw<|zD 3<|zW (j-1)<|zD 2<|zF kU (⟨(j-1),((ys.set j.toNat x41).set ((j-1).toNat) xR),L8⟩) ⟨ho9,(E4 sN Wt).trans hJ.2.2.1,by dsimp only;rw[hJ.2.2.2,ahC (by omega) jL KB sN Wt (of_decide_eq_true (by assumption))]⟩ [0]
   refine zD 4<|zW (i+1)<|zD 2<|zF cU (⟨(i+1),ys,L⟩) ⟨hJ.2.1,hJ.2.2.1,by dsimp only;rw[hJ.2.2.2,ajY (by omega) jL KB (of_decide_eq_false (by assumption))]⟩ [0]
  have nu:=h2;replace nu:=of_decide_eq_false nu;refine zD 16<|zW (i+1)<|zD 2<|zF cU (⟨(i+1),ys,L⟩) ⟨hJ.2.1,hJ.2.2.1,by dsimp only;rw[hJ.2.2.2,ajX (by omega)]⟩ [0]
 refine zD 2<|zR (.tuple ⟨[]⟩) [] [0] L ⟨ys,⟨aiY hI.2.2.2 (by omega),hI.2.2.1⟩,hI.2.1⟩
def bc3{v:Value}{L:Cells}{lim:Int}(ho:bI v 1 3 eC xs L)(hN:xs.length<=12):eT zT 143 [v,zI 0,zI (xs.length:Int),zI lim] ro L (λr Y=>XT v xs Y):=by
 refine zC [.l L]<|zD 9<|iz [1,1,0,0] [] (λ(zz:Nat)=>[(0,v),(1,zI 0),(2,zI (xs.length:Int)),(3,zI lim),(8,.bool true),(9,.bool true)]) (λzz=>[.l L]) (λzz=>True) (λzz=>zz) 0 trivial [0] ?_;rintro z hI K1 cU rest;refine zD 5<|zW ((xs.length:Int)-0)<|zD 8<|zJ 23 (((xs.length:Int)-0)<=12) (λh1=>?_) λh1=>?_
 ·
  refine zD 6<|jc (vs:=[v,zI 0,zI (xs.length:Int)]) [0] (bc4 ho hN) ?_;rintro boX Y27 ⟨bod,bfh,bfq⟩;refine zD 2<|zR (.tuple ⟨[]⟩) [] [0] _ ⟨_,bfh,bfq⟩
 exfalso;omega
def aPW{v:Value}{L:Cells}(ho:bI v 1 3 eC xs L)(hN:xs.length<=12):eT zT 110 [v] ro L (λr Y=>XT v xs Y):=by
 refine zC [.l L]<|zD 3<|jol ho<|zD 6<|je (zU (xs.length:Int)) (amj (by omega))<|zxp [zU (xs.length:Int)] (λhs=>(aJJ (by omega)))<|jc (vs:=[v,zI 0,zI (xs.length:Int),zI (ajP xs.length)]) [0] (bc3 ho hN) ?_;rintro boZ Y10 ⟨bof,axT,kO⟩;refine zD 1<|zR (.tuple ⟨[]⟩) [] [0] _ ⟨_,axT,kO⟩
abbrev BZ(x:Int):Value:= zI x
theorem M0(a:Int):∀(es:List MapEntry) (F:List (Int×Value)) (i:Nat),es.map (λe=>(e.key,e.val))=F.map (λx=>(BZ x.1,x.2))->Instr.findNow (.int .i64) (BZ a) es i=some (ub a F i)
 | [],[],_,_=>rfl
 | [],_::_,_,h=>by simp at h
 |_::_,[],_,h=>by simp at h
 |e::es,x::F,i,h=>by
  simp_all;obtain⟨⟨h1,h2⟩,h3⟩:=h;simp only[Instr.findNow,h1,Instr.sameNow,ub];by_cases hk:a=x.1
  .simp[hk,h2]
  have hb:(a==x.1)=false:=by simp[hk]
  have:=M0 a es F (i+1) h3
  grind
def Kz:X4 zT 3 BZ where
 chk b k α K s Q E h:=by exact h
 find k es F he α K s Q E h:=by
  simp only[Instr.findKey,aI,db rN,M0 k es F 0 he];exact h
 stay k:=by simp[Instr.sameBits]
def apK:Value->Int
 | .int _ n=>n
 |_=>0
theorem keys_eq{es:Array MapEntry}(hE:wN BZ F es ck):es.toList.map (λe=>apK e.key)=F.map (·.1):=by
 have h:=qz (List.map λx=>apK x.1) hE.1;simp_all[nk,apK]
def InS(es:Array MapEntry)(F:List (Int×Value))(seen:List Nat)(zs:List Int):Prop:=(zs++(gq es seen).map λe=>apK e.key).Perm (F.map (·.1))
theorem InS.start{es:Array MapEntry}(hE:wN BZ F es ck):InS es F [] []:=by
 grind [InS,E8,keys_eq]
theorem InS.step{es:Array MapEntry}{e:MapEntry}{k:Int}(h:InS es F seen zs)(hE:wN BZ F es ck)(he:e∈gq es seen)(hk:e.key=BZ k):InS es F (seen++[e.born]) (zs++[k]):=by
 refine List.Perm.trans ?_ h
 grind [P3,apK,bx]
theorem InS.fin{es:Array MapEntry}(h:InS es F seen zs)(he:gq es seen=[]):zs.Perm (F.map (·.1)):=by
 grind [InS]
theorem InS.len{es:Array MapEntry}(h:InS es F seen zs):zs.length<=F.length:=by
 have:=h.length_eq
 grind
def apD{m:Nat}{es:Array MapEntry}(hr:ro m=some (.map es ck))(hE:wN BZ F es ck)(hn:F.length<=12):eT zT 58 [(.map (some m))] ro [] (λr Y=>∃zs,zs.Perm (F.map (·.1))/\bI r 1 3 eC (wS zs) Y):=by
 refine zE<|zD 12<|jmR hr λr6=>jg 0 [.b r6 (vi m ck [])]<|zD 2<|uI<|iz [1,1,0,1,0,0] [] (λ(zz:(List Nat)×Value×Cells×(List Int))=>[(2,zS),(3,zz.2.1),(6,zP r6)]) (λzz=>[.b r6 (vi m ck zz.1),.l zz.2.2.1]) (λzz=>bI zz.2.1 1 3 eC zz.2.2.2 zz.2.2.1/\InS es F zz.1 zz.2.2.2) (λzz=>(gq es zz.1).length) (⟨[],zS,[],[]⟩) ⟨bI.nil _ _ _,InS.start hE⟩ [1,0] ?_;rintro⟨seen,v,L,zs⟩ hI K1 cU rest;dsimp only at hI;refine zD 2<|jmN (it:=r6) (kv:=BZ) (seen:=seen) 0 hr hE (λk7 v7 e7 hf7 he7 hk7 hv7=>?_) (λhz7=>?_)
 ·
  have hzl:=hI.2.len;refine jg 0 [.b r6 (vi m ck (seen++[e7.born]))]<|zD 8<|jmE (it:=r6) 0 hr hE he7 hk7 hv7<|jg 0 [.b r6 (vi m ck (seen++[e7.born]))]<|zD 6<|jn λGy=>zxl eC Gy k7 2 0 (hI.1) λnE nC Bu dj=>zD 2<|dX cU (⟨(seen++[e7.born]),(.slice nE ((zs++[k7])).length nC),Bu,(zs++[k7])⟩) ⟨dj,hI.2.step hE he7 hk7⟩ (Bc he7) [2,0] (Sub.refl _)
 refine jg 0 [.b r6 (vi m ck seen)]<|zD 8<|jc (vs:=[v]) [1] (aPW hI.1 (by have:=hI.2.len;omega)) ?_;rintro boY Y16 ⟨boe,bfi,bfr⟩;refine zD 7<|zR _ [] [0] _ ⟨zs,hI.2.fin hz7,by rw[<-bfi.1];exact bfr⟩
def qp(f k:Int):Bool:=decide (ajZ .u8 (mY .u8 f k) 1=1)
def nV(f:Int):Nat->List Int
 |0=>[]
 |k+1=>nV f k++(bif qp f k then [(k:Int)] else [])
theorem awR{k:Nat}(h:qp f (k:Int)=true):nV f (k+1)=nV f k++[(k:Int)]:=by rw[nV,h];rfl
theorem awS{k:Nat}(h:qp f (k:Int)=false):nV f (k+1)=nV f k:=by rw[nV,h];exact e9 _
def Kw(f:Int)(n:Nat):(nV f n).length<=n:=by
 induction n with
 |zero=>exact bk _
 |succ n ih=>rw[nV,aL];cases qp f (n:Int)<;>simp<;>omega
def aeu:eT zT 116 [.int .u8 f] ro [] (λr Y=>bI r 1 3 eC (nV f 5) Y):=by
 refine zE<|zD 14<|uI<|iz [1,1,0,1,0,0] [] (λ(zz:Nat×Value×Cells)=>[(0,.int .u8 f),(2,zS),(3,zz.2.1),(5,zI (zz.1:Int))]) (λzz=>[.l zz.2.2]) (λzz=>zz.1<=5/\bI zz.2.1 1 3 eC (nV f zz.1) zz.2.2) (λzz=>5-zz.1) (⟨0,zS,[]⟩) ⟨by dsimp only;omega,bI.nil _ _ _⟩ [0] ?_;rintro⟨k,v,L⟩ hI K1 cU rest;dsimp only at hI;have Ee:=Kw f k;refine zD 5<|zJ 6 ((k:Int) <5) (λh1=>?_) λh1=>?_
 ·
  refine zD 13<|jsr (k:= .u8) (k':= .i64) (a:=f) (b:=(k:Int)) 137 (by omega)<|zD 3<|zJ 12 ((ajZ .u8 (mY .u8 f (k:Int)) 1)=1) (λh2=>?_) λh2=>?_
  ·
   refine zD 4<|jn λAx=>zxl eC Ax (k:Int) 1 0 (hI.2) λbax bah L16 aqx=>zD 3<|zW ((k:Int)+1)<|zD 2<|zF cU (⟨k+1,(.slice bax (((nV f k)++[(k:Int)])).length bah),L16⟩) (by dsimp only;rw[awR (decide_eq_true (by assumption))];exact aqx) [0]
  refine zD 3<|zW ((k:Int)+1)<|zD 2<|zF cU (⟨k+1,v,L⟩) (by dsimp only;rw[awS (decide_eq_false (by assumption))];exact hI.2) [0]
 refine zD 8<|zR _ [] [0] L (by rw[<-show k=5 by omega];exact hI.2)
def aw1{t:bY}{m:Nat}{L:Cells}(g1:ro b1=some (.cells ⟨[.map (some m)]⟩ 117 (0,0)))(g2:ro b2=some (.cells ⟨[zI (p:Int)]⟩ 3 (0,0)))(g3:ro b3=some (.cells ⟨[zI (d:Int)]⟩ 3 (0,0)))(hp:p <3)(hd:d <4)(hm:g9 m BZ F L):eT zT 57 [.agg ⟨[zI t.past,zI t.x.a,zI t.x.b,zI t.x.c,zI t.x.d,zI t.y.a,zI t.y.b,zI t.y.c,zI t.y.d,zI t.z.a,zI t.z.b,zI t.z.c,zI t.z.d]⟩,zP b1,zP b2,zP b3] ro L (λr Y=>r= .tuple ⟨[]⟩/\g9 m BZ (iS ((t.at p).at d) (.bool true) F) Y):=by
 refine zC [.l L]<|zD 2<|jn λb4=>zD 2<|jl (b:=b1) (off:=0) (m:=1) (vs:=[(.map (some m))]) 0 ⟨_,_,_,.inl g1,rfl⟩<|jl (b:=b2) (off:=0) (m:=1) (vs:=[zI (p:Int)]) 0 ⟨_,_,_,.inl g2,rfl⟩<|jl (b:=b3) (off:=0) (m:=1) (vs:=[zI (d:Int)]) 0 ⟨_,_,_,.inl g3,rfl⟩<|zD 1<|Dk (b:=b4) (off:=1) (len:=3) (sz:=4) (p:Int) (by omega)<|Dk (b:=b4) (off:=1+(p:Int).toNat*4) (len:=4) (sz:=1) (d:Int) (by omega)<|yL (b:=b4) (off:=1+(p:Int).toNat*4+(d:Int).toNat*1) (m:=1) (vs:=[zI ((t.at p).at d)]) 0 [0] [(b4,.cells ⟨[zI t.past,zI t.x.a,zI t.x.b,zI t.x.c,zI t.x.d,zI t.y.a,zI t.y.b,zI t.y.c,zI t.y.d,zI t.z.a,zI t.z.b,zI t.z.c,zI t.z.d]⟩ 123 (0,0))] (λs _ hZ=>jR (hZ _ (.head _)) (EU (t:=t) (by omega) (by omega)))<|zxo 7 λuk=>We (kv:=BZ) (F:=F) (r:=m) (K:=3) 1 ((t.at p).at d) (.bool true) Kz hm λLm2 yN=>kA uk<|zD 1<|zR _ [] [0] _ ⟨rfl,yN⟩
def aQO{t:bY}{m b4:Nat}{h:Int}{L:Cells}{W:kg}{ls:List cz}{ps:List eI}{mk:Nat->Nat->cz->Int}(eJ:Ct ro Hb W u np ne ls ps mk)(g1:ro b1=some (.cells ⟨[.map (some m)]⟩ 117 (0,0)))(g2:ro b2=some (.cells ⟨[.func (.func 60) ⟨[zP Hb]⟩ ⟨[]⟩]⟩ 128 (0,0)))(g3:ro b3=some (.cells ⟨[zI h]⟩ 3 (0,0)))(g4:ro b4=some (.cells ⟨[zI (d:Int)]⟩ 3 (0,0)))(hd:d <4)(hm:g9 m BZ F L):eT zT 61 [.agg ⟨[zI t.past,zI t.x.a,zI t.x.b,zI t.x.c,zI t.x.d,zI t.y.a,zI t.y.b,zI t.y.c,zI t.y.d,zI t.z.a,zI t.z.b,zI t.z.c,zI t.z.d]⟩,zP b1,zP b2,zP b3,zP b4] ro L (λr Y=>r= .tuple ⟨[]⟩/\g9 m BZ (iS (La np t h d) (.bool true) F) Y):=by
 refine zC [.l L]<|zD 2<|jn λb5=>zD 2<|jl (b:=b1) (off:=0) (m:=1) (vs:=[(.map (some m))]) 0 ⟨_,_,_,.inl g1,rfl⟩<|jl (b:=b2) (off:=0) (m:=1) (vs:=[.func (.func 60) ⟨[zP Hb]⟩ ⟨[]⟩]) 0 ⟨_,_,_,.inl g2,rfl⟩<|jd 1 [0]<|jl (b:=b3) (off:=0) (m:=1) (vs:=[zI h]) 0 ⟨_,_,_,.inl g3,rfl⟩<|jl (b:=b4) (off:=0) (m:=1) (vs:=[zI (d:Int)]) 0 ⟨_,_,_,.inl g4,rfl⟩<|zxo 5 λuk=>zxp [zP Hb,.agg ⟨[zI t.past,zI t.x.a,zI t.x.b,zI t.x.c,zI t.x.d,zI t.y.a,zI t.y.b,zI t.y.c,zI t.y.d,zI t.z.a,zI t.z.b,zI t.z.c,zI t.z.d]⟩,zI h,zI (d:Int)] (λhs=>aF6 (t:=t) (h:=h) (d:=d) (eJ.up hs) hd)<|eH uk [0,1]<|zxo 6 λC7=>We (kv:=BZ) (F:=F) (r:=m) (K:=3) 1 (La np t h d) (.bool true) Kz hm λLm3 hm3=>kA C7<|zD 1<|zR _ [] [0] _ ⟨rfl,hm3⟩
def kG(x:cz):List Int:=[x.a,x.b,x.c,x.d]
def ap1{v:Value}{n:Int}(hl:dk ro v 1 eC xs)(hn:xs.length<=1000000):iI zT 72 [v,zI n] ro (zI (bM (λy=>decide (n=y)) xs 0)):=by
 obtain⟨fO,rh,q9,fb,rfl,sV,mR,nN⟩:=hl;refine zE<|zD 12<|iz [1,0,1,0,0] [] (λ(zz:Nat)=>[(0,.slice fO xs.length fb),(1,zI n),(7,zI (xs.length:Int)),(8,zI (zz:Int))]) (λzz=>[]) (λzz=>zz<=xs.length/\bM (λy=>decide (n=y)) xs 0=bM (λy=>decide (n=y)) (xs.drop zz) zz) (λzz=>xs.length-zz) 0 ⟨by omega,rfl⟩ [] ?_;rintro k hI K1 cU rest;refine zD 5<|zJ 9 ((k:Int) <(xs.length:Int)) (λh1=>?_) λh1=>?_
 ·
  refine zD 14<|zxt xs k fb 1 mR nN λvt iD=>zD 2<|zJ 16 (n=vt) (λh2=>?_) λh2=>?_
  ·
   refine zD 7<|zX (zI (k:Int)) ⟨by rw[hI.2,pZ iD];simp[*],rfl⟩
  refine zD 3<|zW ((k:Int)+1)<|zD 2<|zY cU (k+1) ⟨by omega,by rw[hI.2,pZ iD];simp[*]⟩ []
 refine zD 7<|zX (zI (-1)) ⟨by rw[hI.2,Bj (by omega)],rfl⟩
def bec{v:Value}{n:Int}(hl:dk ro v 1 eC xs)(hn:xs.length<=1000000):iI zT 156 [v,zI n] ro (.bool (decide (bM (λy=>decide (n=y)) xs 0>=0))):=by
 obtain⟨fO,rh,q9,fb,rfl,sV,mR,nN⟩:=hl;refine zE<|zD 8<|zxp [.slice fO xs.length fb,zI n] (λhs=>ap1 ((show dk _ _ _ _ _ from ⟨fO,rh,q9,fb,rfl,sV,mR,nN⟩).up hs) (by first|omega| (simp only[aM,zM];omega))) ?_;refine zD 4<|zX _ ⟨rfl,rfl⟩
structure eX where
 str:List (List au)
 ways:List (List aT)
 aS:List ByteArray
 rules:List fR
 days:Int
 stay:Int
 bB:List fN
def nj(ro:Nat->Option Obj)(l:List Value)(K:eX):Prop:=∃(vS vT vP vR vE:Value) (fa:Option Addr) (fc:Nat),l=[vS,vT,.slice fa 0 fc,vP,vR,zI K.days,zI K.stay,vE]/\bH ro vS K.str/\ku ro vT K.ways/\dk ro vP 1 mG K.aS/\dk ro vR 2 jO K.rules/\dk ro vE 7 rB K.bB
def nj.up{bU:Nat->Option Obj}{K:eX}(h:nj ro l K)(hs:Sub ro bU):nj bU l K:=by
 obtain⟨vS,vT,vP,vR,vE,fa,fc,h0,h1,h2,h3,h4,h5⟩:=h;exact⟨vS,vT,vP,vR,vE,fa,fc,h0,h1.up hs,h2.up hs,h3.up hs,h4.up hs,h5.up hs⟩
structure azv(K:eX):Prop where
 xp:cq K.str
 ways:qv K.str K.ways
 h3:(aH K.str).length<=3
 ne:1<=(eY K.str K.ways).length
 rules:K.rules.length<=4/\∀r∈K.rules,wh r
 aS:K.aS.length<=1000/\∀w∈K.aS,nz w
 bB:K.bB.length<=1000/\∀x∈K.bB,nz x.name
def eX.hs(K:eX):List ak:=aH K.str
def eX.iY(K:eX)(x:fN):Int:=Go.L.iY K.str.length K.hs K.days x
def Eu(f:fN->Int):List fN->Int
 | []=>0
 |x::l=>bif !decide (f x=0) then f x else Eu f l
theorem aid{f:fN->Int}{l:List fN}{k:Nat}{x:fN}(h:l[k]?=some x):Eu f (l.drop k)=bif !decide (f x=0) then f x else Eu f (l.drop (k+1)):=by rw[lB h];rfl
def ZT(K:eX):Int:=
 bif !decide (DK K.aS=0) then DK K.aS else bif decide (((K.hs).length:Int)=0) then 7 else bif decide ((K.aS.length:Int)*(K.hs.length:Int)>6) then 6 else
 bif !pE K.days 1 4|| !pE K.stay 1 K.days then 1 else bif decide ((K.bB.length:Int)>5) then 6 else Eu K.iY K.bB
def aA5:nz (bs [97]):=⟨⟨by decide,by decide⟩,.inl (show ∀b∈([97]:List _),Iv b=true by decide)⟩
def mulR{a b:Nat}(ha:a<=3)(hb:b<=8):(a:Int)*(b:Int)<=24/\0<=(a:Int)*(b:Int):=by
 have:=Sn ha hb;omega
theorem agZ{xs:List ByteArray}(h:DK xs=0):1<=xs.length/\xs.length<=3:=by
 grind [DK]
theorem DT{K:eX}(h:ZT K=0):DK K.aS=0/\K.hs.length≠0/\(K.aS.length:Int)*(K.hs.length:Int)<=6/\((1<=K.days/\K.days<=4)/\1<=K.stay/\K.stay<=K.days)/\K.bB.length<=5/\Eu K.iY K.bB=0:=by
 unfold ZT at h;by_cases h1:DK K.aS=0
 .rw[cN h1] at h;by_cases h2:((K.hs).length:Int)=0
  .rw[cN h2] at h;simp at h
  rw[cX h2] at h;by_cases h3:(K.aS.length:Int)*(K.hs.length:Int)>6
  .rw[cN h3] at h;simp at h
  grind [cX,pE,cN,absurd]
 rw[cX h1] at h;exact absurd h h1
theorem ayK{f:fN->Int}{l:List fN}{k:Nat}{x:fN}(h:l[k]?=some x) (h0:f x=0):Eu f (l.drop k)=Eu f (l.drop (k+1)):=by grind [aid,cN]
theorem ayJ{f:fN->Int}{l:List fN}{k:Nat}{x:fN}(h:l[k]?=some x) (h0:¬f x=0):Eu f (l.drop k)=f x:=by grind [aid,cX]
def eX.W(K:eX):List (List Int):=(eY K.str K.ways).map (·.ways)
def aQT{K:eX}(hK:nj ro l K)(hC:azv K)(hE:ZT K=0):eT zT 52 [.agg ⟨l⟩] ro [] (λr Y=>∃b ha hc LH wa wn wc Lw,r= .tuple ⟨[zP b,.slice wa wn wc,zI 0]⟩/\Y=(b,.cells ⟨l++[.slice ha (aH K.str).length hc,zS,zS]⟩ 113 (0,0))::(LH++Lw)/\bI (.slice ha (aH K.str).length hc) 3 41 bO (aH K.str) LH/\wn=K.W.length/\∀AE,Knows AE Lw->at6 AE (.slice wa wn wc) K.W):=by
 obtain⟨vS,vT,vP,vR,vE,fa,fc,rfl,hS,hT,hp,hr,he⟩:=hK;have C3:=hp;have Ys:=he;have zi:=hr;obtain⟨gX,xY,xX,gF,rfl,A2,xk,xj⟩:=hp;obtain⟨gY,yK,yJ,gP,rfl,GQ,xo,xm⟩:=he;have Pb:∀(i:Nat) (p:jo),([]:List jo)[i]?=some p->eW ⟨ro,[]⟩ 0 (0+i*6) 6 (p5 p):=λ_ _ h=>wU h;obtain⟨pG,JA,nq⟩:=id hS;have Bx:=nq.len;have nI:=hC.xp.two;have MQ:=qf (S:=K.str) hC.ways;have hTp:=hC.ne;have hhl:(aH K.str).length<=8:=bZ hC.h3 (by decide);have wm:=hC.aS.1;have hel:=hC.bB.1;obtain⟨oe1,oe2,oe3,oe4,oe5,oe6⟩:=DT hE;have oel:=agZ oe1;simp only[eX.hs] at oe2 oe3;refine zE<|zD 2<|jn λb1=>jd 8 [0]<|jn λb16=>jd 6 [1]<|jc (vs:=[.agg ⟨[vS,vT,.slice fa 0 fc]⟩]) [] (ah3 hS hC.xp hT hC.ways hC.h3) ?_;rintro _ Lw ⟨wa,wn,wc,rfl,hwn,hWW⟩;simp only[dE] at hwn;refine zD 21<|zJ 28 ((wn:Int)=0) (λh1=>?_) λh1=>?_
 ·
  exfalso;omega
 refine zD 9<|zJ 31 ((wn:Int)>4) (λh2=>?_) λh2=>?_
 ·
  exfalso;omega
 refine zD 6<|jp (vs:=[zP b16]) [1] [(b16,.cells ⟨[vS,vT,.slice fa 0 fc,.slice gX K.aS.length gF,vR,zI K.days,zI K.stay,.slice gY K.bB.length gP,zS,zS,zS]⟩ 113 (0,0))] (λcK hs hZ=>aw4 (W:=⟨vS,vT,.slice fa 0 fc,.slice gX K.aS.length gF,vR,.slice gY K.bB.length gP,zS,K.days,K.stay,none,0,0⟩) (u:= zS) hZ.head (C3.up hs) hC.aS.1 hC.aS.2)<|zD 7<|js 35 (!decide ((DK K.aS)=0)) (λh3=>?_) (λh3=>?_)
 ·
  replace h3:=af (by simpa using h3);exfalso;omega
 replace h3:=ah (by simpa using h3);refine jd 8 [2]<|jc (vs:=[.agg ⟨[vS]⟩]) [] (aw6 hS hC.xp) ?_;rintro v41 L41 aj7;obtain⟨ada,YO,aId⟩:=aj7.form;subst aId;refine jd 14 [2,2]<|zJ 49 (((aH K.str).length:Int)=0) (λh4=>?_) λh4=>?_
 ·
  exfalso;omega
 refine jd 16 [2,2]<|ja ((K.aS.length:Int)*((aH K.str).length:Int)) (by have:=mulR (show K.aS.length<=3 by omega) hhl;omega) ?_;refine zD 2<|zJ 62 (((K.aS.length:Int)*((aH K.str).length:Int))>6) (λh5=>?_) λh5=>?_
 ·
  exfalso;omega
 refine jd 7 [3]<|zxp [vR,.string (bs [97]),.string (bs [97])] (λhs=>aah (zi.up hs) hC.rules.2 hC.rules.1 aA5 aA5)<|jd 18 [3]<|zxp [zI K.days,zI 1,zI 4] (λhs=>SH)<|zD 2<|jj 7 [(1,zP b1),(2,.pointer none),(3,zS),(4,zI 0),(5,zP b16),(6,.slice wa wn wc),(83,.bool ((!(pE K.days 1 4))||(!(pE K.stay 1 K.days))))] (λoX=>?_) (λhj=>?_);rotate_left;refine js 76 (!(pE K.days 1 4)) (λh6=>?_) (λh6=>?_)
 ·
  have Ho:=h6
  try simp only[zB] at Ho
  refine zD 7<|zxw 83 hj (zyc h6)
 ·
  have Ho:=h6
  try simp only[zB] at Ho
  refine jd 4 [3,3]<|zxp [zI K.stay,zI 1,zI K.days] (λhs=>SH)<|zD 2<|zxw 83 hj (zyd h6)
 refine zD 1<|js 83 ((!(pE K.days 1 4))||(!(pE K.stay 1 K.days))) (λh7=>?_) (λh7=>?_)
 ·
  try simp only[zB] at h7
  exfalso;simp[pE] at h7;omega
 try simp only[zB] at h7
 refine jd 10 [3]<|zJ 87 ((K.bB.length:Int)>5) (λh8=>?_) λh8=>?_
 ·
  exfalso;omega
 refine jd 11 [3]<|iz [1,1,1,1,1,1,1,1,1,1,1,1,1,0,1,0,0] [] (λ(zz:Nat)=>[(5,zP b16),(6,.slice wa wn wc),(89,.slice gY K.bB.length gP),(90,zI (K.bB.length:Int)),(91,zI (zz:Int))]) (λzz=>[.l L41,.l Lw,zxc b16 113 [vS,vT,.slice fa 0 fc,.slice gX K.aS.length gF,vR,zI K.days,zI K.stay,.slice gY K.bB.length gP,(.slice ada (aH K.str).length YO),zS,zS],zxc b1 33 [vS,vT,.slice fa 0 fc,.slice gX K.aS.length gF,vR,zI K.days,zI K.stay,.slice gY K.bB.length gP]]) (λzz=>zz<=K.bB.length/\Eu K.iY K.bB=Eu K.iY (K.bB.drop zz)) (λzz=>K.bB.length-zz) 0 ⟨bQ _,rfl⟩ (zN 0 4) ?_;rintro k hI K1 cU rest;refine zD 5<|zJ 92 ((k:Int) <(K.bB.length:Int)) (λh9=>?_) λh9=>?_
 ·
  refine zD 6<|zxt K.bB k gP 7 xo xm λx93 Wo=>jn λDd=>jd 6 [0,0]<|jp (vs:=[zP b16,.agg ⟨[.string x93.name,zI x93.st,zI x93.no,zI x93.lt,.bool x93.late,zI x93.low,zI x93.high]⟩]) [3,1] ((b16,.cells ⟨[vS,vT,.slice fa 0 fc,.slice gX K.aS.length gF,vR,zI K.days,zI K.stay,.slice gY K.bB.length gP,(.slice ada (aH K.str).length YO),zS,zS]⟩ 113 (0,0))::L41) (λcK hs hZ=>(show iI _ _ _ _ (zI (K.iY x93)) from by rw[eX.iY,<-Bx];exact aw8 (W:=⟨vS,vT,.slice fa 0 fc,.slice gX K.aS.length gF,vR,.slice gY K.bB.length gP,zS,K.days,K.stay,ada,(aH K.str).length,YO⟩) (u:= zS) (ws:=pG) (hs:=(aH K.str)) hZ.head (JA.up hs) (aj7.ju hZ.tail) (by omega) (by omega) (show 1<=K.days/\K.days<=4 by omega) (hC.bB.2 _ (zL Wo)))) ?_;refine zD 7<|js 99 (!decide ((K.iY x93)=0)) (λwq=>?_) (λwq=>?_)
  ·
   replace wq:=af (by simpa using wq);exfalso;have e:=ayJ (f:=K.iY) Wo (by omega);rw[<-hI.2,oe6] at e;omega
  replace wq:=ah (by simpa using wq);refine zD 3<|zW ((k:Int)+1)<|zD 2<|zY cU (k+1) ⟨by omega,by rw[hI.2,ayK Wo (by omega)]⟩ [1,2,3,4]
 refine zD 11<|zR (.tuple ⟨[zP b16,.slice wa wn wc,zI 0]⟩) [] [2,0,1] _ ⟨_,_,_,_,_,_,_,_,rfl,rfl,aj7,by simp only[eX.W,dE];exact hwn,hWW⟩
theorem Hq{β:Type}{f g:α->List β}:∀ {l:List α},(∀x∈l,(f x).Perm (g x))->(l.flatMap f).Perm (l.flatMap g)
 | [],_=> .nil
 |x::l,h=>by
  exact(h x (by simp)).append (Hq λy hy=>h y (by grind))
def QL{ls ls':List cz}{mk:Nat->Nat->cz->Int}(h:ls.Perm ls'):∀n t p m,(nY D ls mk need n t p m).Perm (nY D ls' mk need n t p m)
 |0,_,_,_=> .refl _
 |n+1,t,p,m=>by
  refine(List.Perm.flatMap_right _ h).trans (Hq λx _=>?_);cases pY D t p x with
  |false=>rfl
  |true=>exact QL h n _ _ _
def aiR{ls ls':List cz}{mk:Nat->Nat->cz->Int}{k:Nat}(h:ls.Perm ls'):(iC D ls mk np k need).Perm (iC D ls' mk np k need):=Hq λ_ _=>QL h _ _ _ _
def Wb(f:bY->Int)(L:List bY):List (Int×Value):=L.foldl (λF t=>iS (f t) (.bool true) F) []
theorem IU[DecidableEq κ]{k:κ}:∀ {F:List (κ×Value)} {i:Nat},ub k F i=none->k∉F.map (·.1)
 | [],_,_=>by simp
 |x::l,i,h=>by
  unfold ub at h;split at h
  .grind
  rename_i eA;simp only[bR,aN,not_or];exact⟨eA,IU h⟩
theorem N8{k:κ}{v:Value}:∀ {F:List (κ×Value)} {i:Nat} {u:Value},F[i]?=some (k,u)->(xb k v F i).map (·.1)=F.map (·.1)
 | [],_,_,h=>by rfl
 |x::l,0,u,h=>by grind [xb]
 |x::l,i+1,u,h=>by simp at h;simp[xb,N8 h]
theorem agv[DecidableEq κ]{k:κ}{v:Value}{F:List (κ×Value)}:(iS k v F).map (·.1)=F.map (·.1)/\k∈F.map (·.1)\/(iS k v F).map (·.1)=F.map (·.1)++[k]/\k∉F.map (·.1):=by
 unfold iS;split
 .rename_i i u hf;have h:=(tC hf).2;exact .inl ⟨N8 h,a8.2 ⟨_,zL h,rfl⟩⟩
 grind [IU]
theorem Te[DecidableEq κ]{k:κ}{v:Value}{F:List (κ×Value)}(h:(F.map (·.1)).Nodup):((iS k v F).map (·.1)).Nodup:=by
 grind [agv,eo]
theorem agu[DecidableEq κ]{k x:κ}{v:Value}{F:List (κ×Value)}:x∈(iS k v F).map (·.1)↔x=k\/x∈F.map (·.1):=by
 grind [agv]
theorem Ux{f:bY->Int}:∀(L:List bY) (F:List (Int×Value)),(F.map (·.1)).Nodup->((L.foldl (λF t=>iS (f t) (.bool true) F) F).map (·.1)).Nodup/\∀x,x∈(L.foldl (λF t=>iS (f t) (.bool true) F) F).map (·.1)↔x∈F.map (·.1)\/∃t∈L,f t=x
 | [],F,h=>⟨h,λx=>by simp⟩
 |t::L,F,h=>by
  have:=Ux (f:=f) L (iS (f t) (.bool true) F) (Te h)
  grind [agu]
theorem T4{f:bY->Int}{L:List bY}{k:Nat}{t:bY}(h:L[k]?=some t):Wb f (L.take (k+1))=iS (f t) (.bool true) (Wb f (L.take k)):=by
 grind [List.take_add_one,Wb]
theorem ajT{f:bY->Int}{L L':List bY}(hz:zs.Perm ((Wb f L).map (·.1)))(hL:L.Perm L')(hd:ds.Nodup)(hm:(ds.all λx=>L'.any λt=>decide (f t=x))=true)(ha:(L'.all λt=>ds.contains (f t))=true):zs.Perm ds:=by
 obtain⟨h1,h2⟩:=Ux (f:=f) L [] FI
 grind [List.perm_ext_iff_of_nodup,Wb]
def ZL{a:Int}(h:zs.Perm [a]):zs=[a]:=List.perm_singleton.1 h
theorem E3{a:Int}(h:zs.Perm [a,b]):zs=[a,b]\/zs=[b,a]:=by
 match zs,h.length_eq,h with
 | [x,y],_,h=>
  have h1:=h.mem_iff (a:=x);simp only[aN,fF,aZ,true_or,true_iff] at h1;rcases h1 with rfl|rfl
  .have:=ZL (List.perm_cons _|>.1 h);simp at this;subst this;exact .inl rfl
  have:=ZL (List.perm_cons _|>.1 (h.trans (.swap _ _ _)));simp at this;subst this;exact .inr rfl
theorem adY{a c:Int}(h:zs.Perm [a,b,c]):zs=[a,b,c]\/zs=[a,c,b]\/zs=[b,a,c]\/zs=[b,c,a]\/zs=[c,a,b]\/zs=[c,b,a]:=by
 match zs,h.length_eq,h with
 | [x,y,z],_,h=>
  have h1:=h.mem_iff (a:=x);simp only[aN,fF,aZ,true_or,true_iff] at h1;rcases h1 with rfl|rfl|rfl
  .rcases E3 (List.perm_cons _|>.1 h) with e|e<;>simp at e<;>obtain⟨rfl,rfl⟩:=e<;>simp
  .rcases E3 (List.perm_cons _|>.1 (h.trans (.swap _ _ _))) with e|e<;>simp at e<;>obtain⟨rfl,rfl⟩:=e<;>simp
  have h2: [a,b,x].Perm [x,a,b]:=(List.Perm.cons _ (.swap _ _ _)).trans (.swap _ _ _);rcases E3 (List.perm_cons _|>.1 (h.trans h2)) with e|e<;>simp at e<;>obtain⟨rfl,rfl⟩:=e<;>simp
def xD(q:bY->Bool)(L:List bY):Int:=((L.countP q:Nat):Int)
def Lz{q:bY->Bool}{L L':List bY}(h:L.Perm L'):xD q L=xD q L':=by rw[xD,xD,h.countP_eq]
def qJ(f:bY->Int)(v:Int)(L:List bY):Int:=xD (λt=>decide (f t=v)) L
structure CI(f:bY->Int)(F:List (Int×Value))(L:List bY):Prop where
 nd:(F.map (·.1)).Nodup
 val:∀x∈F,x.2= zI (qJ f x.1 L)
 key:∀t∈L,f t∈F.map (·.1)
def CI.nil{f:bY->Int}:CI f [] []:=⟨FI,by simp,by simp⟩
theorem UO{f:bY->Int}{v:Int}{L:List bY}{t:bY}:qJ f v (L++[t])=qJ f v L+bif decide (f t=v) then 1 else 0:=by
 simp only[qJ,xD,List.countP_append,List.countP_cons,List.countP_nil];cases h:decide (f t=v)<;>simp_all
theorem Ly{f:bY->Int}{v:Int}{L:List bY}(h:∀t∈L,f t≠v):qJ f v L=0:=by
 simp only[qJ,xD];rw[List.countP_eq_zero.2 (by simpa using h)];rfl
def ay5{f:bY->Int}{v:Int}{L:List bY}:0<=qJ f v L/\qJ f v L<=L.length:=by
 have:=List.countP_le_length (p:=λt=>decide (f t=v)) (l:=L);simp only[qJ,xD];omega
def aao:∀ {F:List (κ×Value)} {i:Nat} {k:κ} {v u:Value} {x:κ×Value},(F.map (·.1)).Nodup->F[i]?=some (k,u)->x∈xb k v F i->x=(k,v)\/(x∈F/\x.1≠k)
 | [],_,_,_,_,_,_,_,h=>by cases h
 |y::F,0,k,v,u,x,hn,hi,h=>by
  simp at hi;subst hi;rcases aN.1 h with h|h
  .exact .inl h
  refine .inr ⟨cb _ h,λe=>?_⟩;simp only[bR,iG] at hn;exact hn.1 (e▸cY (f:=(·.1)) h)
 |y::F,i+1,k,v,u,x,hn,hi,h=>by
  simp at hi;simp only[bR,iG] at hn;rcases aN.1 h with h|h
  .subst h;exact .inr ⟨dQ,λe=>hn.1 (e▸cY (f:=(·.1)) (zL hi))⟩
  exact(aao hn.2 hi h).imp id λh=>⟨cb _ h.1,h.2⟩
def CI.look{f:bY->Int}{L:List bY}(h:CI f F L)(k:Int):R5 (zI 0) false k F= zI (qJ f k L):=by
 simp only[R5,lkM];cases hf:ub k F 0 with
 |none=>
  have h1:=IU hf;rw[Ly (f:=f) λt ht e=>h1 (by rw[<-e];exact h.key t ht)];rfl
 |some u=>
  obtain⟨j,u⟩:=u;have:=(tC hf).2;have:=h.val _ (zL this);simp at this;simp[this]
theorem CI.upd{f:bY->Int}{F1:List (Int×Value)}{L:List bY}{t:bY}(h:CI f F L)(h1:((∃u,ub (f t) F 0=some u)/\F1=F)\/(ub (f t) F 0=none/\F1=F++[(f t,zI 0)])):CI f (iS (f t) (zI (qJ f (f t) L+1)) F1) (L++[t]):=by
 have e1:qJ f (f t) (L++[t])=qJ f (f t) L+1:=by rw[UO,cN rfl];rfl
 have e2:∀k,k≠f t->qJ f k (L++[t])=qJ f k L:=λk hk=>by rw[UO,cX λe=>hk e.symm];simp
 have hF1:(F1.map (·.1)).Nodup/\(∀x∈F1,x.1≠f t->x∈F)/\(∀k∈F.map (·.1),k∈F1.map (·.1))/\∃u,ub (f t) F1 0=some u:=by
  rcases h1 with ⟨hu,rfl⟩| ⟨hf,rfl⟩
  .exact⟨h.nd,λx hx _=>hx,λ_ hk=>hk,hu⟩
  refine⟨?_,λx hx eA=>?_,λk hk=>by simp at hk ⊢;exact .inl hk,_,Em hf⟩
  .rw[cw];exact eo.2 ⟨h.nd,by simp,λa ha b hb IM=>by simp at hb;subst hb;subst IM;exact IU hf ha⟩
  rcases bJ.1 hx with hx|hx
  .exact hx
  simp at hx;subst hx;exact absurd rfl eA
 obtain⟨hn,ho,hk,⟨j,u⟩,hf⟩:=hF1;have hu:=(tC hf).2;rw[acA] at hu;have NC:iS (f t) (zI (qJ f (f t) L+1)) F1=xb (f t) (zI (qJ f (f t) L+1)) F1 j:=by simp only[iS,hf]
 rw[NC];refine⟨by rw[N8 hu];exact hn,λx hx=>?_,λs hs=>?_⟩
 .rcases aao hn hu hx with rfl| ⟨hx,eA⟩
  .rw[e1]
  rw[e2 _ eA];exact h.val _ (ho _ hx eA)
 rw[N8 hu];rcases bJ.1 hs with hs|hs
 .exact hk _ (h.key s hs)
 simp at hs;subst hs;exact a8.2 ⟨_,zL hu,rfl⟩
def TS(f:bY->Int)(L:List bY):Int:=(L.map λt=>qJ f (f t) L).foldl max 0
def RF(f:bY->Int)(L:List bY)(m:Int):Prop:=0<=m/\(∀v,qJ f v L<=m)/\(m=0\/∃v,qJ f v L=m)
def foldl_max:∀(l:List Int) (a:Int),a<=l.foldl max a/\(∀x∈l,x<=l.foldl max a)/\(l.foldl max a=a\/l.foldl max a∈l)
 | [],a=>by simp
 |x::l,a=>by
  obtain⟨h1,h2,h3⟩:=foldl_max l (max a x);rw[lS];refine⟨by omega,λy hy=>?_,?_⟩
  .rcases aN.1 hy with rfl|hy
   .omega
   exact h2 y hy
  rcases h3 with h3|h3
  .rcases Int.le_total a x with h|h
   .exact .inr (by rw[h3,Int.max_eq_right h];simp)
   exact .inl (by rw[h3,Int.max_eq_left h])
  exact .inr (by simp[h3])
def VZ(f:bY->Int)(L:List bY):RF f L (TS f L):=by
 obtain⟨h1,h2,h3⟩:=foldl_max (L.map λt=>qJ f (f t) L) 0;refine⟨h1,λv=>?_,h3.imp id λh=>?_⟩
 .by_cases hv:∃t∈L,f t=v
  .obtain⟨t,ht,rfl⟩:=hv;exact h2 _ (cY (f:=λt=>qJ f (f t) L) ht)
  rw[Ly λt ht e=>hv ⟨t,ht,e⟩];exact h1
 obtain⟨t,_,e⟩:=a8.1 h;exact⟨_,e⟩
def RF.eq{f:bY->Int}{L L':List bY}{a:Int}(hL:L.Perm L')(h:RF f L a)(h':RF f L' b):a=b:=by
 have e:∀v,qJ f v L=qJ f v L':=λv=>Lz hL;obtain⟨h1,h2,h3⟩:=h;obtain⟨k1,k2,k3⟩:=h';have ab:a<=b:=by
  rcases h3 with rfl| ⟨v,hv⟩
  .exact k1
  rw[<-hv,e];exact k2 v
 have ba:b<=a:=by
  rcases k3 with rfl| ⟨v,hv⟩
  .exact h1
  rw[<-hv,<-e];exact h2 v
 omega
def aed{f:bY->Int}{L L':List bY}(h:L.Perm L'):TS f L=TS f L':=(VZ f L).eq h (VZ f L')
def CI.oZ{f:bY->Int}{L:List bY}{m:Int}(h:CI f F L)(h0:0<=m)(h1:∀x∈F,∀n,x.2= zI n->n<=m)(h2:m=0\/∃x∈F,x.2= zI m):m=TS f L:=by
 refine RF.eq (.refl _) ⟨h0,λv=>?_,h2.imp id λ⟨x,hx,e⟩=>?_⟩ (VZ f L)
 .by_cases hv:v∈F.map (·.1)
  .obtain⟨x,hx,rfl⟩:=a8.1 hv;exact h1 x hx _ (h.val x hx)
  rw[Ly (f:=f) λt ht e=>hv (by rw[<-e];exact h.key t ht)];exact h0
 have:=h.val x hx;rw[e] at this;exact⟨x.1,by simpa using this.symm⟩
def G9(g:ak->List ak)(S:List (ak×Value)):List (ak×Value):=S.flatMap λq=>(dO qW (g q.1)).map λx=>(x,q.2)
structure alf(hs:List ak)(g:ak->List ak)(F:List (ak×Value)):Prop where
 m:∀p,p∈F↔∃(i:Nat) (h x:ak),hs[i]?=some h/\x∈g h/\p=(x,zI (i:Int))
 n:(F.map (·.1)).Nodup
def Im(hs:List ak)(k:Nat):List (ak×Value):=(List.range k).filterMap λ(i:Nat)=>(hs[i]?).map λh=>(h,zI (i:Int))
theorem TN{hs:List ak}{k:Nat}{x:ak}(h:hs[k]?=some x):Im hs (k+1)=Im hs k++[(x,zI (k:Int))]:=by
 grind [Im,GC]
theorem aae{hs:List ak}{k:Nat}{p:ak×Value}:p∈Im hs k↔∃i x,i <k/\hs[i]?=some x/\p=(x,zI (i:Int)):=by
 grind [Im]
theorem XK{l:List α}(hn:l.Nodup){i:Nat}{x:α}(h1:l[i]?=some x) (h2:l[j]?=some x):i=j:=by
 grind [aA,RS]
theorem aoX{hs:List ak}(hn:hs.Nodup){k:Nat}{x:ak}(h:hs[k]?=some x):iS x (zI (k:Int)) (Im hs k)=Im hs (k+1):=by
 have:x∉(Im hs k).map (·.1):=λhx=>by
  obtain⟨p,hp,rfl⟩:=a8.1 hx;obtain⟨i,y,hi,hy,rfl⟩:=aae.1 hp
  grind [XK]
 grind [TN,HW]
theorem TO{hs:List ak}:∀k,k<=hs.length->(Im hs k).map (·.1)=hs.take k
 |0,_=>by rfl
 |k+1,hk=>by
  rw[TN (ai _),cw,TO k (by omega),List.take_add_one,ai (show k <hs.length by omega)];rfl
theorem aDz{hs:List ak}(hn:hs.Nodup):alf hs tY (Im hs hs.length) where
 m p:=by
  rw[aae];constructor
  .rintro⟨i,x,_,hx,rfl⟩;exact⟨i,x,x,hx,by simp[tY],rfl⟩
  rintro⟨i,h,x,hx,hm,rfl⟩;simp only[tY,aU] at hm;grind
 n:=by rw[TO _ (bk _),List.take_length];exact hn
def YM(hs:List ak)(g:ak->List ak)(x:ak):Int:=bM (λh=>decide (x∈g h)) hs 0
def aiO(hs:List ak)(g:ak->List ak)(x:ak):Int:=bif decide (YM hs g x>=0) then YM hs g x else 0
def Q1{p:α->Bool}:∀ {l:List α} {k:Nat},(bM p l k= -1/\∀x∈l,p x=false)\/∃i x,l[i]?=some x/\p x=true/\bM p l k=((k+i:Nat):Int)
 | [],k=> .inl ⟨rfl,by simp⟩
 |y::l,k=>by
  simp only[bM];cases hy:p y with
  |true=>exact .inr ⟨0,y,rfl,hy,by simp⟩
  |false=>
   rcases Q1 (p:=p) (l:=l) (k:=k+1) with ⟨h1,h2⟩| ⟨i,x,h1,h2,h3⟩
   .exact .inl ⟨h1,λx hx=>(aN.1 hx).elim (λe=>e▸hy) (h2 x)⟩
   exact .inr ⟨i+1,x,by simpa using h1,h2,by simp only[jI];rw[h3];congr 1;omega⟩
theorem apJ{F:List (ak×Value)}(hn:(F.map (·.1)).Nodup){k:ak}{v:Value}(h1:(k,u)∈F)(h2:(k,v)∈F):u=v:=by
 obtain⟨i,hi⟩:=dV h1;obtain⟨j,hj⟩:=dV h2;have:=XK hn (i:=i) (j:=j) (x:=k) (by grind) (by grind)
 grind
def amr{hs:List ak}{g:ak->List ak}{F:List (ak×Value)}(h:alf hs g F)(x:ak):R5 (zI 0) true x F= .tuple ⟨[zI (aiO hs g x),.bool (decide (YM hs g x>=0))]⟩:=by
 simp only[R5];rcases Q1 (p:=λh=>decide (x∈g h)) (l:=hs) (k:=0) with ⟨h1,h2⟩| ⟨i,y,h1,h2,h3⟩
 .have wX:x∉F.map (·.1):=λhx=>by
   obtain⟨p,hp,rfl⟩:=a8.1 hx;obtain⟨j,z,w,hz,hw,rfl⟩:=(h.m p).1 hp;exact af (h2 z (zL hz)) hw
  have:lkM x F=none:=by
   cases hf:lkM x F with
   |none=>rfl
   |some u=>
    simp only[lkM,fo] at hf;obtain⟨q,hq,_⟩:=hf;exact absurd (cY (f:=(·.1)) (zL (tC (j:=q.1) (v:=q.2) hq).2)) wX
  simp[this,aiO,YM,h1]
 rw[iE] at h3;have hx:=(h.m _).2 ⟨i,y,x,h1,ah h2,rfl⟩;obtain⟨v,hv,hm⟩:=Od (cY (f:=(·.1)) hx);have:=apJ h.n hm hx;subst this;simp[hv,aiO,YM,h3]
theorem ahD{g:ak->List ak}{S:List (ak×Value)}{p:ak×Value}:p∈G9 g S↔∃q∈S,∃x∈g q.1,p=(x,q.2):=by
 simp only[G9,fG,a8,lU];constructor
 .rintro⟨q,hq,x,hx,rfl⟩;exact⟨q,hq,x,hx,rfl⟩
 rintro⟨q,hq,x,hx,rfl⟩;grind
theorem ap0{g:ak->List ak}{S:List (ak×Value)}{k:ak}{v:Value}:G9 g (S++[(k,v)])=G9 g S++(dO qW (g k)).map λx=>(x,v):=by simp[G9]
def amq{hs H:List ak}{g g2:ak->List ak}{F S:List (ak×Value)}(h:alf hs g F)(hp:S.Perm F)(uM:∀a∈hs,∀x∈g a,x∈H)(ha:Apart H g2)(hn:∀x∈H,(g2 x).Nodup):alf hs (Gc g g2) (G9 g2 S) where
 m p:=by
  rw[ahD];constructor
  .rintro⟨q,hq,x,hx,rfl⟩;obtain⟨i,a,y,h1,h2,rfl⟩:=(h.m q).1 (hp.mem_iff.1 hq);exact⟨i,a,x,h1,AN.2 ⟨y,h2,hx⟩,rfl⟩
  rintro⟨i,a,x,h1,h2,rfl⟩;obtain⟨y,h3,h4⟩:=AN.1 h2;exact⟨(y,zI (i:Int)),hp.mem_iff.2 ((h.m _).2 ⟨i,a,y,h1,h3,rfl⟩),x,h4,rfl⟩
 n:=by
  have hk:∀q∈S,q.1∈H:=λq hq=>by
   obtain⟨i,a,y,h1,h2,rfl⟩:=(h.m q).1 (hp.mem_iff.1 hq);exact uM a (zL h1) y h2
  have e:(G9 g2 S).map (·.1)=(S.map (·.1)).flatMap λx=>dO qW (g2 x):=by
   simp only[G9,List.map_flatMap,List.flatMap_map,qU,nk,List.map_id']
  rw[e];have hS:(S.map (·.1)).Nodup:=(hp.map (·.1)).nodup_iff.2 h.n;refine ah8 hS (λx hx=>?_) (λa wo b hb z h1 h2=>?_)
  .obtain⟨q,hq,rfl⟩:=a8.1 hx;exact OX (hn _ (hk q hq))
  obtain⟨q,hq,rfl⟩:=a8.1 wo;obtain⟨r,hr,rfl⟩:=a8.1 hb;exact ha _ (hk q hq) _ (hk r hr) z (lU.1 h1) (lU.1 h2)
theorem au7{H:List ak}{g2:ak->List ak}{es:Array MapEntry}{F S:List (ak×Value)}{e:MapEntry}{k x:ak}{v:Value}(h:InP es F seen S)(hF:(F.map (·.1)).Nodup)(hk:∀p∈F,p.1∈H)(he:e∈gq es seen)(hek:e.key=mw k)(hkH:k∈H)(ha:Apart H g2)(hn:(g2 k).Nodup)(hx:(dO qW (g2 k))[j]?=some x):
 iS x v (G9 g2 S++((dO qW (g2 k)).take j).map λx=>(x,v))=G9 g2 S++((dO qW (g2 k)).take (j+1)).map λx=>(x,v):=by
 have hxm:=lU.1 (zL hx);have hSF:∀p∈S,p∈F:=λp hp=>h.mem_iff.1 (cZ _ hp);have hkS:k∉S.map (·.1):=λiu=>by
  have h2:=(h.map (·.1)).nodup_iff.2 hF;rw[cw] at h2;refine(eo.1 h2).2.2 _ iu _ ?_ rfl;rw[qU];exact a8.2 ⟨e,he,by simp[hek,T5,mw,bO]⟩
 have wX:x∉(G9 g2 S++((dO qW (g2 k)).take j).map λx=>(x,v)).map (·.1):=λhm=>by
  rw[cw,bJ] at hm;rcases hm with hm|hm
  .obtain⟨p,hp,rfl⟩:=a8.1 hm;obtain⟨q,hq,y,hy,rfl⟩:=ahD.1 hp;have:=ha _ (hk q (hSF q hq)) _ hkH _ hy hxm;exact hkS (this▸cY (f:=(·.1)) hq)
  simp only[qU,nk,List.map_id'] at hm;exact BD (OX hn) hx hm
 rw[HW wX,c8 hx,cw,bx];rfl
def Vb{ways:List (List aT)}{s:Nat}{l:List aT}{x y:yD}{w:List Int}(h:Walk (ways.drop s) x (w.drop s) y)(hl:ways[s]?=some l):∃(i:Nat) (c:aT),w[s]?=some (i:Int)/\l[i]?=some c/\iO x.fin c=0/\Walk (ways.drop (s+1)) (DV x i c) (w.drop (s+1)) y:=by
 obtain⟨hs,e⟩:=aA.1 hl;rw[gN hs,e] at h;obtain⟨i,c,w',h1,h2,h3,h4⟩:=h;have h5:w[s]?=some (i:Int):=by have:=qz (·[0]?) h1;simpa using this
 obtain⟨rF,_⟩:=aA.1 h5;rw[gN rF] at h1;simp only[iH] at h1;exact⟨i,c,h5,h2,h3,by rw[h1.2];exact h4⟩
def eX.g(K:eX)(w:List Int):ak->List ak:=match (eY K.str K.ways).find? λy=>decide (y.ways=w) with
 |some y=>y.g
 |none=>tY
theorem eX.walk{K:eX}{w:List Int}(h:w∈K.W):∃y,K.g w=y.g/\Walk K.ways ⟨[],K.str,tY⟩ w y:=by
 obtain⟨z,hz,rfl⟩:=a8.1 h;cases hf:(eY K.str K.ways).find? λy=>decide (y.ways=z.ways) with
 |none=>grind
 |some y=>
  obtain⟨v,hv⟩:=mem_grow.1 (List.mem_of_find?_eq_some hf);have h2:=(JJ hv).1
  grind [eX.g]
theorem awl{a x:α}(h: [a][j]?=some x):j=0/\x=a:=by grind
def bdq{W:kg}{v:Value}{K:eX}{w:List Int}{y:yD}(hH0:ro Hb=some (.cells ⟨W.cells u⟩ 113 (0,0)))(nP:bH ro W.a0 K.str)(hT0:ku ro W.a1 K.ways)(hh0:dk ro (.slice W.ha W.H W.iK) 3 bO (aH K.str))(hC:azv K)(hw:dk ro v 1 eC w)(yM:Walk K.ways ⟨[],K.str,tY⟩ w y):eT zT 112 [zP Hb,v] ro [] (λr Y=>∃rm F,r= .map (some rm)/\g9 rm mw F Y/\alf (aH K.str) y.g F):=by
 obtain⟨rE,Zx,Zv,qV,Qv,Zw,VK,VJ⟩:=hh0;obtain⟨nn,ht0,j8⟩:=hT0;obtain⟨fZ,xg,xe,eR,wH,xf,ou,oh⟩:=ht0;obtain⟨wC,R3,R2,uF,rfl,qwk,MB,MA⟩:=hw;have hH:ro Hb=some (.cells ⟨[W.a0,.slice fZ nn.length eR,W.a2,W.a3,W.a4,zI W.D,zI W.S,W.a7,.slice rE ((aH K.str).length) qV,u,W.LJ]⟩ 113 (0,0)):=by rw[<-Qv,<-wH];exact hH0
 have kT:(aH K.str).Nodup:=B5 hC.xp _;have hwl:=(JJ yM).2;have MQ:=j8.len;have hhl:=hC.h3;have hw2:=hC.ways.two;refine zE<|zD 6<|jmk mw λr19 L19 axZ=>zD 8<|jl (b:=Hb) (off:=0) (m:=11) (vs:=[W.a0,.slice fZ nn.length eR,W.a2,W.a3,W.a4,zI W.D,zI W.S,W.a7,.slice rE ((aH K.str).length) qV,u,W.LJ]) 8 ⟨_,_,_,.inl hH,rfl⟩<|zD 4<|iz [1,1,0,1,0,0] [] (λ(zz:Nat×Cells)=>[(0,zP Hb),(1,.slice wC w.length uF),(4,(.map none)),(5,(.map (some r19))),(23,.slice rE ((aH K.str).length) qV),(24,zI ((aH K.str).length:Int)),(25,zI (zz.1:Int))]) (λzz=>[.l zz.2]) (λzz=>zz.1<=(aH K.str).length/\g9 r19 mw (Im (aH K.str) zz.1) zz.2) (λzz=>(aH K.str).length-zz.1) (⟨0,L19⟩) ⟨Nat.zero_le _,axZ⟩ [0] ?_;rintro⟨k,LM⟩ hI K1 cU rest;dsimp only at hI;refine zD 5<|zJ 26 ((k:Int) <((aH K.str).length:Int)) (λh1=>?_) λh1=>?_
 ·
  refine zD 7<|zxt (aH K.str) k qV 3 VK VJ λx28 Hc=>jn λb7=>jd 7 [0,0]<|We (kv:=mw) (F:=(Im (aH K.str) k)) (r:=r19) (K:=41) 1 x28 (zI (k:Int)) wV hI.2 λLm2 yN=>zD 2<|zW ((k:Int)+1)<|zD 2<|zF cU (⟨k+1,Lm2⟩) (by dsimp only;rw[<-aoX kT Hc];exact yN) [0]
 refine zD 9<|jl (b:=Hb) (off:=0) (m:=11) (vs:=[W.a0,.slice fZ nn.length eR,W.a2,W.a3,W.a4,zI W.D,zI W.S,W.a7,.slice rE ((aH K.str).length) qV,u,W.LJ]) 0 ⟨_,_,_,.inl hH,rfl⟩<|jn λb8=>jsx 0 b8 0 [zS] [W.a0] 24 (by obtain⟨_,h,_⟩:=nP;simp[oG h]) rfl ?_;refine zD 9<|uI<|iz [1,1,1,1,0,1,0,0] [] (λ(zz:Nat×Nat×(List (ak×Value))×Cells×Value×Cells×yD)=>[(0,zP Hb),(4,(.map none)),(5,(.map (some zz.2.1))),(8,zP b8),(40,.slice wC w.length uF),(41,zI (w.length:Int)),(42,zI (zz.1:Int))]) (λ(zz:Nat×Nat×(List (ak×Value))×Cells×Value×Cells×yD)=>[zxc b8 24 [zz.2.2.2.2.1],.l zz.2.2.2.1,.l zz.2.2.2.2.2.1]) (λ(zz:Nat×Nat×(List (ak×Value))×Cells×Value×Cells×yD)=>(zz.1<=w.length)/\g9 zz.2.1 mw zz.2.2.1 zz.2.2.2.1/\Walk (K.ways.drop zz.1) zz.2.2.2.2.2.2 (w.drop zz.1) y/\YB (aH K.str) zz.1 zz.2.2.2.2.2.2/\zz.2.2.2.2.2.2.fin.length=K.str.length/\alf (aH K.str) zz.2.2.2.2.2.2.g zz.2.2.1/\∀bU,Sub ro bU->Knows bU zz.2.2.2.2.2.1->bH bU zz.2.2.2.2.1 zz.2.2.2.2.2.2.fin) (λ(zz:Nat×Nat×(List (ak×Value))×Cells×Value×Cells×yD)=>w.length-zz.1) (⟨0,r19,(Im (aH K.str) (aH K.str).length),LM,W.a0,[],⟨[],K.str,tY⟩⟩) ⟨Nat.zero_le _,by have:=hI.2;rwa[show k=(aH K.str).length by omega] at this,yM,YB.start hC.xp hC.h3,rfl,aDz kT,λ_ h _=>nP.up h⟩ [1,2,0] ?_;rintro⟨s,rm,F,LM,vP,LP,x⟩ hJ K2 kU rest;dsimp only at hJ;refine zD 5<|zJ 43 ((s:Int) <(w.length:Int)) (λh3=>?_) λh3=>?_
 ·
  refine zD 7<|zxt w s uF 1 MB MA λxR sN=>zD 10<|jl (b:=Hb) (off:=0) (m:=11) (vs:=[W.a0,.slice fZ nn.length eR,W.a2,W.a3,W.a4,zI W.D,zI W.S,W.a7,.slice rE ((aH K.str).length) qV,u,W.LJ]) 1 ⟨_,_,_,.inl hH,rfl⟩<|zD 1<|zxs nn s eR 1 ou λx54 aGM=>zD 1 ?_;obtain⟨l56,ax1,h56⟩:=j8.get aGM;obtain⟨bpG,bpF,bpD,bck,rfl,bpE,bcj,bci⟩:=h56;refine jl 0 (oh _ _ aGM)<|zD 1 ?_;obtain⟨y4,aGL⟩:=zG l56 (xR.toNat) (by obtain⟨i0,cc,hwx,xv,_⟩:=Vb hJ.2.2.1 ax1;have e:=sN.symm.trans hwx;simp only[aB] at e;have:=(aA.1 xv).1;omega);refine Yj xR bck 7 bcj aGL (cE (show 0<=xR/\xR <((l56).length:Int) from (by obtain⟨i0,cc,hwx,xv,_⟩:=Vb hJ.2.2.1 ax1;have e:=sN.symm.trans hwx;simp only[aB] at e;have:=(aA.1 xv).1;omega)).1).symm ?_;refine jl 0 (bci _ _ aGL)<|jn λwM=>jd 4 [0]<|jmk mw λr60 L60 bfG=>zD 4 ?_;have MO:s<=1:=by have:=hC.ways.two;omega
  obtain⟨i0,cc,hwx,xv,aIl,bet⟩:=Vb hJ.2.2.1 ax1;have bgX:l56[i0]?=some y4:=by have e:=sN.symm.trans hwx;simp only[aB] at e;subst e;simpa using aGL
  obtain rfl:y4=cc:=Option.some.inj (bgX.symm.trans xv);have Ol:=((hC.ways.ok _ (zL ax1)).2 _ (zL xv)).gf hJ.2.2.2.2.1;have MS:=Ah (hJ.2.2.2.1.fin MO) Ol aIl;obtain⟨esM,ckM,rfl,hEM⟩:=hJ.2.1;refine jg 3 [.b rm (.map esM ckM)]<|zD 1<|jf [3,4] ((rm,.map esM ckM)::LP) (λro6 yj hk5=>?_);have hSP:=hJ.2.2.2.2.2.2 _ yj (Knows.tail hk5);refine zD 1<|jmR (hk5 _ (.head _)) λr62=>jg 0 [.b r62 (vi rm ckM [])]<|zD 2<|iz [1,1,1,1,0,1,0,0,1,1,0,0,1,1,1,0,1,0,0] [K2] (λ(zz:(List Nat)×(List (ak×Value))×Cells)=>[(0,zP Hb),(4,(.map none)),(5,(.map (some rm))),(8,zP b8),(11,zP wM),(12,(.map (some r60))),(40,.slice wC w.length uF),(41,zI (w.length:Int)),(42,zI (s:Int)),(62,zP r62)]) (λ(zz:(List Nat)×(List (ak×Value))×Cells)=>[.b r62 (vi rm ckM zz.1),.l zz.2.2,zxc wM 100 [zI y4.k,zI y4.st,zI y4.ot,zI y4.fn,zI y4.fl,zI y4.tn,zI y4.tl],zxc b8 24 [vP]]) (λ(zz:(List Nat)×(List (ak×Value))×Cells)=>g9 r60 mw (G9 (gk x.fin y4) zz.2.1) zz.2.2/\InP esM F zz.1 zz.2.1) (λ(zz:(List Nat)×(List (ak×Value))×Cells)=>(gq esM zz.1).length) (⟨[],[],L60⟩) ⟨bfG,InP.start hEM⟩ (zN 0 4) ?_;rintro⟨seen,S,LN⟩ hQ K3 Dq rest;dsimp only at hQ;refine zD 2<|jmN (it:=r62) (kv:=mw) (seen:=seen) 0 (hk5 _ (.head _)) hEM (λk63 v63 e63 aH4 aya aHS aR5=>?_) (λaGz=>?_)
  ·
   obtain⟨i63,h63,z63,bes,aGz,aB0⟩:=(hJ.2.2.2.2.2.1.m _).1 aH4;simp only[Prod.mk.injEq] at aB0;obtain⟨rfl,rfl⟩:=aB0;have hkh:=hJ.2.2.2.1.inn _ (zL bes) _ aGz;refine jg 0 [.b r62 (vi rm ckM (seen++[e63.born]))]<|zD 8<|jmE (it:=r62) 0 (hk5 _ (.head _)) hEM aya aHS aR5<|jg 0 [.b r62 (vi rm ckM (seen++[e63.born]))]<|zD 2<|jn λGy=>jd 8 [0,4,3,0]<|jc (vs:=[.agg ⟨[vP]⟩,.agg ⟨[zI y4.k,zI y4.st,zI y4.ot,zI y4.fn,zI y4.fl,zI y4.tn,zI y4.tl]⟩,.agg ⟨[zI k63.h,zI k63.n,zI k63.l]⟩]) [] (anB (y:=k63) Ol aIl hSP (hJ.2.2.2.1.fin MO) hkh) ?_;rintro _ Y72 ⟨ba,bn,bc,rfl,bie⟩;refine zD 8<|jf [0] Y72 (λro9 Jz hk8=>?_);have hB:=bie _ hk8;obtain⟨qBa,qBb,qBo,qBc,hBe,qBk,qBh,qBl⟩:=hB;simp only[Value.slice.injEq] at hBe;obtain⟨rfl,rfl,rfl⟩:=hBe;refine zD 5<|iz [1,1,1,1,0,1,0,0,1,1,0,0,1,1,1,0,1,0,0,1,1,0,1,1,1,0,0] [K2,K3] (λ(zz:Nat×Cells)=>[(0,zP Hb),(4,(.map none)),(5,(.map (some rm))),(8,zP b8),(11,zP wM),(12,(.map (some r60))),(14,zI (i63:Int)),(40,.slice wC w.length uF),(41,zI (w.length:Int)),(42,zI (s:Int)),(62,zP r62),(75,.slice ba ((dO qW (gk x.fin y4 k63)).length) bc),(76,zI ((dO qW (gk x.fin y4 k63)).length:Int)),(77,zI (zz.1:Int))]) (λzz=>[.b r62 (vi rm ckM (seen++[e63.born])),.l zz.2,zxc wM 100 [zI y4.k,zI y4.st,zI y4.ot,zI y4.fn,zI y4.fl,zI y4.tn,zI y4.tl],zxc b8 24 [vP]]) (λzz=>(zz.1<=(dO qW (gk x.fin y4 k63)).length)/\g9 r60 mw ((G9 (gk x.fin y4) S)++((dO qW (gk x.fin y4 k63)).take zz.1).map λz=>(z,Value.int .i64 (i63:Int))) zz.2) (λzz=>(dO qW (gk x.fin y4 k63)).length-zz.1) (⟨0,LN⟩) ⟨Nat.zero_le _,by have:=hQ.1;simpa using this⟩ (zN 1 4) ?_;rintro⟨j,L3⟩ hR K4 hK4 rest;dsimp only at hR;have hbl:(dO qW (gk x.fin y4 k63)).length<=2:=by rw[xT (MS.val _ hkh).1.1 Kx];exact(MS.val _ hkh).1.2
   refine zD 5<|zJ 78 ((j:Int) <((dO qW (gk x.fin y4 k63)).length:Int)) (λwq=>?_) λwq=>?_
   ·
    refine zD 6<|zxt (dO qW (gk x.fin y4 k63)) j bc 3 qBh qBl λx79 aGG=>jn λb18=>jd 6 [0,0]<|We (kv:=mw) (F:=((G9 (gk x.fin y4) S)++((dO qW (gk x.fin y4 k63)).take j).map λz=>(z,Value.int .i64 (i63:Int)))) (r:=r60) (K:=41) 2 x79 (zI (i63:Int)) wV hR.2 λalk aeT=>zD 2<|zW ((j:Int)+1)<|zD 2<|zF hK4 (⟨j+1,alk⟩) (by have:=aeT;rw[au7 hQ.2 hJ.2.2.2.2.2.1.n (λp hp=>by obtain⟨i,h,z,h1,h2,rfl⟩:=(hJ.2.2.2.2.2.1.m p).1 hp;exact hJ.2.2.2.1.inn _ (zL h1) _ h2) aya aHS hkh MS.ap (MS.val _ hkh).1.1 aGG] at this;exact this) [2,0,3,4]
   refine zD 2<|dX Dq (⟨(seen++[e63.born]),(S++[(k63,Value.int .i64 (i63:Int))]),L3⟩) ⟨by dsimp only;rw[ap0];have:=hR.2;rwa[List.take_of_length_le (by omega)] at this,hQ.2.step hEM aya aHS aR5⟩ (Bc aya) (zN 0 4) Jz
  refine jg 0 [.b r62 (vi rm ckM seen)]<|jd 9 [3,2]<|jc (vs:=[.agg ⟨[vP]⟩,.agg ⟨[zI y4.k,zI y4.st,zI y4.ot,zI y4.fn,zI y4.fl,zI y4.tn,zI y4.tl]⟩]) [] (aEG Ol aIl hSP (hJ.2.2.2.1.fin MO)) ?_;rintro _ Y88 ⟨aa,an,ac,rfl,bih⟩;refine jd 10 [4]<|zW ((s:Int)+1)<|zD 2<|dX kU (⟨s+1,r60,(G9 (gk x.fin y4) S),LN,.slice aa an ac,Y88,(DV x i0 y4)⟩) ⟨by dsimp only;omega,hQ.1,bet,hJ.2.2.2.1.next MO MS,by simp[DV,Jm,hJ.2.2.2.2.1],amq hJ.2.2.2.2.2.1 (hQ.2.fin aGz) hJ.2.2.2.1.inn MS.ap (λz hz=>(MS.val z hz).1.1),λbU _ hk=>bih bU hk⟩ (by dsimp only;omega) [4,2,0] yj
 refine zD 8<|zR _ [] [1] LM ⟨rm,F,rfl,hJ.2.1,by have h:=hJ.2.2.1;rw[Mi (by omega),Mi (by omega)] at h;rw[h.2];exact hJ.2.2.2.2.2.1⟩
theorem awU{b lo hi:Nat}{T:TypeId}{x:cz}(h:ro b=some (.cells ⟨jH x⟩ T (0,0)))(hl:lo<=hi)(hh:hi<=4)(h4:lo <4):dk ro (.slice (some ⟨b,0+lo*1,none⟩) (hi-lo) (4-lo)) 1 eC (((kG x).take hi).drop lo):=by
 have h0:=eZ (enc:=eC) (kG x) h (λ_ _=>rfl);have:=dk.part h0 hl (hh)
 grind [lo,Addr.add,kG]
def wE(q:fN->Bool)(es:List fN):Nat->Int
 |0=>0
 |k+1=>match es[k]? with
  |some x=>bif q x then iOr .u8 (wE q es k) (iU .u8 1 (k:Int)) else wE q es k
  |none=>0
def ao5{q:fN->Bool}{es:List fN}{k:Nat}{x:fN}(h:es[k]?=some x) (hq:q x=true):wE q es (k+1)=iOr .u8 (wE q es k) (iU .u8 1 (k:Int)):=by simp_all[wE,cG]
def ao6{q:fN->Bool}{es:List fN}{k:Nat}{x:fN}(h:es[k]?=some x) (hq:q x=false):wE q es (k+1)=wE q es k:=by simp_all[wE,jI]
def inB(y:cz)(x:fN)(h:Int):Bool:=decide (bM (λz=>decide (h=z)) (((kG y).take (x.high+1).toNat).drop x.low.toNat) 0>=0)
def yg(nm:Int)(hm:fN->Int)(y:cz)(es:List fN):Nat->Int
 |0=>0
 |k+1=>match es[k]? with
  |some x=>bif qp nm (k:Int)&& !decide (hm x= -1)&&inB y x (hm x) then iOr .u8 (yg nm hm y es k) (iU .u8 1 (k:Int)) else yg nm hm y es k
  |none=>0
def awM{hm:fN->Int}{y:cz}{es:List fN}{k:Nat}{x:fN}(h:es[k]?=some x) (hq:(qp nm (k:Int)&& !decide (hm x= -1)&&inB y x (hm x))=true):yg nm hm y es (k+1)=iOr .u8 (yg nm hm y es k) (iU .u8 1 (k:Int)):=by simp_all[yg,cG]
def V3{hm:fN->Int}{y:cz}{es:List fN}{k:Nat}{x:fN}(h:es[k]?=some x) (hq:(qp nm (k:Int)&& !decide (hm x= -1)&&inB y x (hm x))=false):yg nm hm y es (k+1)=yg nm hm y es k:=by simp only[yg,h,hq,jI]
def aaq(f:cz->Int)(ls:List cz)(k:Nat):List (cz×Value):=(ls.take k).foldl (λF y=>iS y (.int .u8 (f y)) F) []
theorem TW{f:cz->Int}{ls:List cz}{k:Nat}{y:cz}(h:ls[k]?=some y):aaq f ls (k+1)=iS y (.int .u8 (f y)) (aaq f ls k):=by
 grind [aaq,List.take_add_one]
theorem ayA[DecidableEq κ]{k:κ}{v:Value}{F:List (κ×Value)}:∃j,ub k (iS k v F) 0=some (j,v):=by
 unfold iS;split
 .rename_i i u hf;have:=abA (v:=v) hf
  grind
 simp_all[Em]
theorem QV[DecidableEq κ]{k k':κ}{v:Value}(h:k≠k'):∀ {F:List (κ×Value)} {i:Nat},(ub k (F++[(k',v)]) i).map (·.2)=(ub k F i).map (·.2)
 | [],i=>by grind [ub]
 |x::F,i=>by
  simp only[dK,ub];split
  .rfl
  exact QV h
theorem QU[DecidableEq κ]{k k':κ}{v:Value}(h:k≠k'):∀ {F:List (κ×Value)} {i j:Nat},F[j]?=some (k',u)->(ub k (xb k' v F j) i).map (·.2)=(ub k F i).map (·.2)
 | [],_,_,hj=>by rfl
 |x::F,i,0,hj=>by grind [xb,ub]
 |x::F,i,j+1,hj=>by
  simp only[xb,ub];split
  .rfl
  exact QU h hj
theorem ajN[DecidableEq κ]{k k':κ}{v:Value}{F:List (κ×Value)}(h:k≠k'):lkM k (iS k' v F)=lkM k F:=by
 unfold iS;split
 .rename_i i u hf;have:=(tC hf).2;exact QU h this
 exact QV h
def TX{f:cz->Int}{ls:List cz}:∀ {k:Nat},k<=ls.length->∀y∈ls.take k,R5 (.int .u8 0) false y (aaq f ls k)= .int .u8 (f y)
 |0,_,y,hy=>by simp at hy
 |k+1,hk,y,hy=>by
  have hx:=ai (show k <ls.length by omega);rw[TW hx];by_cases e:y=ls[k]
  .subst e;obtain⟨j,hj⟩:=ayA (k:=ls[k]) (v:=Value.int .u8 (f ls[k])) (F:=aaq f ls k);simp only[R5,lkM,hj];rfl
  rw[List.take_add_one,hx,bJ] at hy;have hy2:y∈ls.take k:=hy.elim id λh=>by simp at h;exact absurd h e
  have:=TX (f:=f) (show k<=ls.length by omega) y hy2;simp only[R5,ajN e];exact this
def RJ(Z:Cells)(x:eI)(n:Nat)(ls:List cz)(mk:Nat->cz->Int):Prop:=∀j,j <n->∃r es ck F,x.m j= .map (some r)/\(r,Obj.map es ck)∈Z/\wN kvL F es ck/\∀y∈ls,R5 (.int .u8 0) false y F= .int .u8 (mk j y)
def eI.qj(x:eI)(k:Nat)(v:Value):eI:=match k with
 |0=>{x with m0:=v}
 |1=>{x with m1:=v}
 |_=>{x with m2:=v}
theorem aov{x:eI}{k:Nat}{v:Value}(hk:k <3):gZ (Bn x) (1+(k:Int).toNat*1) [v]=Bn (x.qj k v):=by
 rcases Yi hk with rfl|rfl|rfl<;>rfl
def aow{x:eI}{k:Nat}(hk:k <3):Nat.ble ((1+(k:Int).toNat*1)+1) (Bn x).length=true:=by
 rcases Yi hk with rfl|rfl|rfl<;>rfl
theorem VL{x:eI}{k:Nat}{v:Value}(hk:k <3):(x.qj k v).m j=if j=k then v else if j <3 then x.m j else (x.qj k v).m j:=by
 rcases Yi hk with rfl|rfl|rfl<;>rcases j with _|_|_|j<;>simp[eI.qj,eI.m]<;>omega
def aof{x:eI}{k:Nat}{v:Value}:(x.qj k v).w=x.w:=by
 rcases k with _|_|k<;>rfl
def RJ.snoc{Z L:Cells}{x:eI}{r:Nat}{ls:List cz}{mk:Nat->cz->Int}{F:List (cz×Value)}(hn:n <3)(h:RJ Z x n ls mk)(hm:g9 r kvL F L)(hF:∀y∈ls,R5 (.int .u8 0) false y F= .int .u8 (mk n y)):RJ (L++Z) (x.qj n (.map (some r))) (n+1) ls mk:=by
 intro j hj;obtain⟨es,ck,rfl,hE⟩:=hm;by_cases e:j=n
 .subst e;exact⟨r,es,ck,F,by rw[VL hn,dN rfl],by simp,hE,hF⟩
 obtain⟨r',iV,ck',F',h1,h2,h3,h4⟩:=h j (by omega);exact⟨r',iV,ck',F',by rw[VL hn,cy e,dN (by omega)];exact h1,by simp[h2],h3,h4⟩
def qF(K:eX)(s:ByteArray)(x:fN):Bool:= !decide (OG K.rules x.name s=2)
def Of(hs:List ak)(wi:ak->Int)(wb:ak->Bool)(x:fN):Int:=Qs hs x (wi ⟨x.st,x.no,x.lt⟩) (wb ⟨x.st,x.no,x.lt⟩)
def mkG(K:eX)(hs:List ak)(wi:ak->Int)(wb:ak->Bool)(j:Nat)(y:cz):Int:=match K.aS[j]? with
 |some s=>yg (wE (qF K s) K.bB K.bB.length) (Of hs wi wb) y K.bB K.bB.length
 |none=>0
theorem aFQ{K:eX}{hs:List ak}{wi:ak->Int}{wb:ak->Bool}{y:cz}{s:ByteArray}(h:K.aS[j]?=some s):mkG K hs wi wb j y=yg (wE (qF K s) K.bB K.bB.length) (Of hs wi wb) y K.bB K.bB.length:=by grind [mkG]
def auk(K:eX):Prop:=∀x∈K.bB,0<=x.low/\x.low<=x.high/\x.high<=3
def aog{x:eI}{k:Nat}{r:Option Nat}(hk:k <3)(h:∀j,∃o,x.m j=Value.map o):∀j,∃o,(x.qj k (.map r)).m j=Value.map o:=by
 intro j;have h0:=h 0;have h1:=h 1;have h2:=h 2;rcases Yi hk with rfl|rfl|rfl<;>rcases j with _|_|j<;>simp_all[eI.qj,eI.m]
def aQV{pb rw:Nat}{W:kg}{o0 o1 o2:Option Nat}{K:eX}{ls:List cz}{Hs:List ak}{es:Array MapEntry}{F:List (ak×Value)}{wi:ak->Int}{wb:ak->Bool}(hH0:ro Hb=some (.cells ⟨W.cells u⟩ 113 (0,0)))(C3:dk ro W.a3 1 mG K.aS)(zi:dk ro W.a4 2 jO K.rules)(Ys:dk ro W.a7 7 rB K.bB)(hl0:dk ro u 4 jH ls)(hh0:dk ro (.slice W.ha W.H W.iK) 3 bO Hs)(hC:azv K)(hOK:auk K)(Ee:ls.length<=5000)(hnh:Hs.length<=1000)(wm:K.aS.length<=3)(hel:K.bB.length<=5)(hr:ro rw=some (.map es ck))(hE:wN mw F es ck)(Yp:∀y:ak,R5 (zI 0) true y F= .tuple ⟨[zI (wi y),.bool (wb y)]⟩):eT zT 113 [zP Hb,zP pb] ro [(pb,.cells ⟨[.map (some rw),.map o0,.map o1,.map o2]⟩ 142 (0,0))] (λr Y=>∃(x:eI) (Z:Cells),r= .tuple ⟨[]⟩/\(x.w= .map (some rw)/\∀j,∃o,x.m j= .map o)/\RJ Z x K.aS.length ls (mkG K Hs wi wb)/\Y=(pb,.cells ⟨Bn x⟩ 142 (0,0))::Z):=by
 obtain⟨gX,xY,xX,gF,Bd,A2,xk,xj⟩:=C3;obtain⟨gY,yK,yJ,gP,yV,GQ,xo,xm⟩:=Ys;obtain⟨fO,rh,q9,fb,hle,sV,mR,nN⟩:=hl0;have hH:ro Hb=some (.cells ⟨[W.a0,W.a1,W.a2,.slice gX K.aS.length gF,W.a4,zI W.D,zI W.S,.slice gY K.bB.length gP,(.slice W.ha W.H W.iK),.slice fO ls.length fb,W.LJ]⟩ 113 (0,0)):=by rw[<-Bd,<-yV,<-hle];exact hH0
 refine zC [zxc pb 142 [(.map (some rw)),(.map o0),(.map o1),(.map o2)]]<|zD 6<|jl (b:=Hb) (off:=0) (m:=11) (vs:=[W.a0,W.a1,W.a2,.slice gX K.aS.length gF,W.a4,zI W.D,zI W.S,.slice gY K.bB.length gP,(.slice W.ha W.H W.iK),.slice fO ls.length fb,W.LJ]) 3 ⟨_,_,_,.inl hH,rfl⟩<|zD 4<|uI<|iz [1,0,0] [] (λ(zz:Nat×eI×Cells)=>[(0,zP Hb),(1,zP pb),(21,.slice gX K.aS.length gF),(22,zI (K.aS.length:Int)),(23,zI (zz.1:Int))]) (λzz=>[zxc pb 142 [zz.2.1.w,zz.2.1.m0,zz.2.1.m1,zz.2.1.m2],.l zz.2.2]) (λzz=>zz.1<=K.aS.length/\(zz.2.1.w= .map (some rw)/\∀j,∃o,zz.2.1.m j= .map o)/\RJ zz.2.2 zz.2.1 zz.1 ls (mkG K Hs wi wb)) (λzz=>K.aS.length-zz.1) (⟨0,⟨.map (some rw),.map o0,.map o1,.map o2⟩,[]⟩) ⟨Nat.zero_le _,⟨rfl,λj=>by rcases j with _|_|j<;>exact⟨_,rfl⟩⟩,λ_ h=>absurd h (Nat.not_lt_zero _)⟩ [1,0] ?_;rintro⟨k,x,Z⟩ hI K1 cU rest;dsimp only at hI;refine zD 5<|zJ 24 ((k:Int) <(K.aS.length:Int)) (λh1=>?_) λh1=>?_
 ·
  refine zD 7<|zxt K.aS k gF 1 xk xj λx26 aaM=>zD 7<|jmk kvL λAT L30 ake=>zD 2<|Dk (b:=pb) (off:=1) (len:=3) (sz:=1) (k:Int) (by omega)<|jsx 1 pb (1+(k:Int).toNat*1) [x.w,x.m0,x.m1,x.m2] [(.map (some AT))] 142 (by intro v hv;rw[List.mem_singleton] at hv;subst hv;rfl) (aow (x:=x) (by omega)) ?_;refine jmw 0 [zxc pb 142 [(x.qj k (.map (some AT))).w,(x.qj k (.map (some AT))).m0,(x.qj k (.map (some AT))).m1,(x.qj k (.map (some AT))).m2]] (L:=[(pb,.cells ⟨gZ [x.w,x.m0,x.m1,x.m2] (1+(k:Int).toNat*1) [(.map (some AT))]⟩ 142 (0,0))]) (by show [(pb,Obj.cells ⟨gZ (Bn x) (1+(k:Int).toNat*1) [.map (some AT)]⟩ 142 (0,0))]=_;rw[aov (by omega)];rfl) ?_;refine zD 12<|jl (b:=Hb) (off:=0) (m:=11) (vs:=[W.a0,W.a1,W.a2,.slice gX K.aS.length gF,W.a4,zI W.D,zI W.S,.slice gY K.bB.length gP,(.slice W.ha W.H W.iK),.slice fO ls.length fb,W.LJ]) 7 ⟨_,_,_,.inl hH,rfl⟩<|zD 4<|iz [1,0,0,1,1,0,0,1,1,1,0,1,0,0] [K1] (λ(zz:Nat×Int)=>[(0,zP Hb),(1,zP pb),(4,zI (k:Int)),(5,.string x26),(6,.int .u8 zz.2),(21,.slice gX K.aS.length gF),(22,zI (K.aS.length:Int)),(23,zI (k:Int)),(38,.slice gY K.bB.length gP),(39,zI (K.bB.length:Int)),(40,zI (zz.1:Int))]) (λzz=>[zxc pb 142 [(x.qj k (.map (some AT))).w,(x.qj k (.map (some AT))).m0,(x.qj k (.map (some AT))).m1,(x.qj k (.map (some AT))).m2],.l L30,.l Z]) (λzz=>zz.1<=K.bB.length/\zz.2=wE (qF K x26) K.bB zz.1) (λzz=>K.bB.length-zz.1) (⟨0,0⟩) ⟨Nat.zero_le _,rfl⟩ [0,1,2] ?_;rintro⟨j,n⟩ hJ K2 kU rest;dsimp only at hJ;refine zD 5<|zJ 41 ((j:Int) <(K.bB.length:Int)) (λh2=>?_) λh2=>?_
  ·
   refine zD 7<|zxt K.bB j gP 7 xo xm λx43 ap4=>jn λb8=>jd 9 [0]<|jl (b:=Hb) (off:=0) (m:=11) (vs:=[W.a0,W.a1,W.a2,.slice gX K.aS.length gF,W.a4,zI W.D,zI W.S,.slice gY K.bB.length gP,(.slice W.ha W.H W.iK),.slice fO ls.length fb,W.LJ]) 4 ⟨_,_,_,.inl hH,rfl⟩<|jd 3 [0]<|zxp [W.a4,.string x43.name,.string x26] (λhs=>aah (zi.up hs) hC.rules.2 hC.rules.1 (hC.bB.2 _ (zL ap4)) (hC.aS.2 _ (zL aaM)))<|zD 11<|js 58 (!decide ((OG K.rules x43.name x26)=2)) (λh3=>?_) (λh3=>?_)
   ·
    replace h3:=of_decide_eq_false (by simpa using h3);refine zD 4<|jsh (k:= .u8) (k':= .i64) (a:=1) (b:=(j:Int)) 137 (by omega)<|zD 4<|zW ((j:Int)+1)<|zD 2<|zF kU (⟨j+1,(iOr .u8 n (iU .u8 1 (j:Int)))⟩) (by dsimp only;rw[hJ.2];exact(ao5 ap4 (by simp only[qF];first|rw[decide_eq_false (by assumption)];rfl|rw[decide_eq_true (by assumption)];rfl)).symm) [1,2,3]
   replace h3:=of_decide_eq_true (by simpa using h3);refine zD 3<|zW ((j:Int)+1)<|zD 2<|zF kU (⟨j+1,n⟩) (by dsimp only;rw[hJ.2];exact(ao6 ap4 (by simp only[qF];first|rw[decide_eq_false (by assumption)];rfl|rw[decide_eq_true (by assumption)];rfl)).symm) [1,2,3]
  refine zD 3 ?_;have hn:n=wE (qF K x26) K.bB K.bB.length:=by rw[hJ.2,show j=K.bB.length by omega]
  refine zD 4<|jl (b:=Hb) (off:=0) (m:=11) (vs:=[W.a0,W.a1,W.a2,.slice gX K.aS.length gF,W.a4,zI W.D,zI W.S,.slice gY K.bB.length gP,(.slice W.ha W.H W.iK),.slice fO ls.length fb,W.LJ]) 9 ⟨_,_,_,.inl hH,rfl⟩<|zD 4<|iz [1,0,0,1,1,0,0,1,1,1,1,1,0,0] [K1] (λ(zz:Nat×Cells)=>[(0,zP Hb),(1,zP pb),(4,zI (k:Int)),(6,.int .u8 n),(21,.slice gX K.aS.length gF),(22,zI (K.aS.length:Int)),(23,zI (k:Int)),(67,.slice fO ls.length fb),(68,zI (ls.length:Int)),(69,zI (zz.1:Int))]) (λzz=>[.l zz.2,zxc pb 142 [(x.qj k (.map (some AT))).w,(x.qj k (.map (some AT))).m0,(x.qj k (.map (some AT))).m1,(x.qj k (.map (some AT))).m2],.l Z]) (λzz=>zz.1<=ls.length/\g9 AT kvL (aaq (λy=>yg n (Of Hs wi wb) y K.bB K.bB.length) ls zz.1) zz.2) (λzz=>ls.length-zz.1) (⟨0,L30⟩) ⟨Nat.zero_le _,ake⟩ [1,0,2] ?_;rintro⟨m,LF⟩ hQ K3 Dq rest;dsimp only at hQ;refine zD 5<|zJ 70 ((m:Int) <(ls.length:Int)) (λh4=>?_) λh4=>?_
  ·
   refine zD 6<|zxt ls m fb 4 mR nN λU5 aGI=>jn λDd=>jd 13 [0]<|jl (b:=Hb) (off:=0) (m:=11) (vs:=[W.a0,W.a1,W.a2,.slice gX K.aS.length gF,W.a4,zI W.D,zI W.S,.slice gY K.bB.length gP,(.slice W.ha W.H W.iK),.slice fO ls.length fb,W.LJ]) 7 ⟨_,_,_,.inl hH,rfl⟩<|zD 4<|iz [1,0,0,1,1,0,0,1,1,1,1,1,0,0,1,1,0,0,1,1,0,1,0,0] [K1,K3] (λ(zz:Nat×Int)=>[(0,zP Hb),(1,zP pb),(4,zI (k:Int)),(6,.int .u8 n),(12,zP Dd),(13,.int .u8 zz.2),(21,.slice gX K.aS.length gF),(22,zI (K.aS.length:Int)),(23,zI (k:Int)),(67,.slice fO ls.length fb),(68,zI (ls.length:Int)),(69,zI (m:Int)),(77,.slice gY K.bB.length gP),(78,zI (K.bB.length:Int)),(79,zI (zz.1:Int))]) (λzz=>[zxc Dd 120 [zI U5.a,zI U5.b,zI U5.c,zI U5.d],.l LF,zxc pb 142 [(x.qj k (.map (some AT))).w,(x.qj k (.map (some AT))).m0,(x.qj k (.map (some AT))).m1,(x.qj k (.map (some AT))).m2],.l Z]) (λzz=>zz.1<=K.bB.length/\zz.2=yg n (Of Hs wi wb) U5 K.bB zz.1) (λzz=>K.bB.length-zz.1) (⟨0,0⟩) ⟨Nat.zero_le _,rfl⟩ (zN 0 4) ?_;rintro⟨e,d⟩ hR K4 hK4 rest;dsimp only at hR;refine zD 5<|zJ 80 ((e:Int) <(K.bB.length:Int)) (λh5=>?_) λh5=>?_
   ·
    refine zD 7<|zxt K.bB e gP 7 xo xm λBB aeD=>jn λAx=>jd 10 [0,3,0]<|zxp [zP Hb,.agg ⟨[(x.qj k (.map (some AT))).w,(x.qj k (.map (some AT))).m0,(x.qj k (.map (some AT))).m1,(x.qj k (.map (some AT))).m2]⟩,.agg ⟨[.string BB.name,zI BB.st,zI BB.no,zI BB.lt,.bool BB.late,zI BB.low,zI BB.high]⟩] (λhs=>(by rw[show (x.qj k (.map (some AT))).w=Value.map (some rw) from aof.trans hI.2.1.1];exact aF5 (hs _ _ hH0) (hh0.up hs) hnh (hs _ _ hr) hE (Yp _))) ?_;refine zD 3 ?_;have hox:=hOK _ (zL aeD);refine zD 3<|jsr (k:= .u8) (k':= .i64) (a:=n) (b:=(e:Int)) 137 (by omega)<|zD 3<|js 95 (decide ((ajZ .u8 (mY .u8 n (e:Int)) 1)=1)) (λh6=>?_) (λh6=>?_)
    ·
     have Ho:=h6;replace Ho:=ah Ho;refine zD 4<|js 99 (!decide (((Of Hs wi wb) BB)=(-1))) (λh7=>?_) (λh7=>?_)
     ·
      have h7g:=h7;replace h7g:=af (by simpa using h7g);refine jd 4 [0,0]<|zW (BB.high+1)<|bd1 (b:=Dd) (off:=0) (len:=4) (sz:=1) BB.low (BB.high+1) (by omega)<|zD 1<|jp (vs:=[(.slice (some ⟨Dd,0+BB.low.toNat*1,none⟩) ((BB.high+1).toNat-BB.low.toNat) (4-BB.low.toNat)),zI ((Of Hs wi wb) BB)]) [1] [(Dd,.cells ⟨[zI U5.a,zI U5.b,zI U5.c,zI U5.d]⟩ 120 (0,0))] (λcK hs hZ=>(show iI _ _ _ _ (.bool (inB U5 BB ((Of Hs wi wb) BB))) from bec (awU hZ.head (by omega) (by omega) (by omega)) (by simp only[rD,cH,kG,aJ,aO];omega))) ?_;refine zD 2<|js 108 (inB U5 BB ((Of Hs wi wb) BB)) (λh8=>?_) (λh8=>?_)
      ·
       refine zD 4<|jsh (k:= .u8) (k':= .i64) (a:=1) (b:=(e:Int)) 137 (by omega)<|zD 4<|zW ((e:Int)+1)<|zD 2 ?_;have hq:(qp n (e:Int)&& !decide ((Of Hs wi wb) BB= -1)&&inB U5 BB ((Of Hs wi wb) BB))=true:=by rw[show qp n (e:Int)=true from cN (by assumption),show decide ((Of Hs wi wb) BB= -1)=false from cX (by omega),show inB U5 BB ((Of Hs wi wb) BB)=true from by assumption];rfl
       exact zF hK4 (⟨e+1,(iOr .u8 d (iU .u8 1 (e:Int)))⟩) (by dsimp only;rw[hR.2];exact(awM aeD hq).symm) [1,2,3,4]
      refine zD 3<|zW ((e:Int)+1)<|zD 2 ?_;have hq:(qp n (e:Int)&& !decide ((Of Hs wi wb) BB= -1)&&inB U5 BB ((Of Hs wi wb) BB))=false:=by rw[show qp n (e:Int)=true from cN (by assumption),show decide ((Of Hs wi wb) BB= -1)=false from cX (by omega),show inB U5 BB ((Of Hs wi wb) BB)=false from by assumption];rfl
      exact zF hK4 (⟨e+1,d⟩) (by dsimp only;rw[hR.2];exact(V3 aeD hq).symm) [1,2,3,4]
     have h7g:=h7;replace h7g:=ah (by simpa using h7g);refine zD 13<|zW ((e:Int)+1)<|zD 2 ?_;have hq:(qp n (e:Int)&& !decide ((Of Hs wi wb) BB= -1)&&inB U5 BB ((Of Hs wi wb) BB))=false:=by rw[show qp n (e:Int)=true from cN (by assumption),show decide ((Of Hs wi wb) BB= -1)=true from cN (by omega)];rfl
     exact zF hK4 (⟨e+1,d⟩) (by dsimp only;rw[hR.2];exact(V3 aeD hq).symm) [1,2,3,4]
    have Ho:=h6;replace Ho:=af Ho;refine zD 17<|zW ((e:Int)+1)<|zD 2 ?_;have hq:(qp n (e:Int)&& !decide ((Of Hs wi wb) BB= -1)&&inB U5 BB ((Of Hs wi wb) BB))=false:=by rw[show qp n (e:Int)=false from cX (by assumption)];rfl
    exact zF hK4 (⟨e+1,d⟩) (by dsimp only;rw[hR.2];exact(V3 aeD hq).symm) [1,2,3,4]
   refine zD 7<|Dk (b:=pb) (off:=1) (len:=3) (sz:=1) (k:Int) (by omega)<|yL (b:=pb) (off:=1+(k:Int).toNat*1) (m:=1) (vs:=[(.map (some AT))]) 0 [2] [(pb,.cells ⟨[(x.qj k (.map (some AT))).w,(x.qj k (.map (some AT))).m0,(x.qj k (.map (some AT))).m1,(x.qj k (.map (some AT))).m2]⟩ 142 (0,0))] (λs _ hZ=>jR (hZ _ (.head _)) (show nth (Bn (x.qj k (.map (some AT)))) (1+(k:Int).toNat*1)=some (.map (some AT)) by rw[PH (by omega),VL (by omega),if_pos rfl]))<|jd 2 [0]<|zxo 8 λC6=>We (kv:=kvL) (F:=(aaq (λy=>yg n (Of Hs wi wb) y K.bB K.bB.length) ls m)) (r:=AT) (K:=120) 1 (U5:cz) (.int .u8 d) ahr hQ.2 λbjA bfN=>kA C6<|zD 2<|zW ((m:Int)+1)<|zD 2<|zF Dq (⟨m+1,bjA⟩) (by dsimp only;rw[TW aGI,show yg n (Of Hs wi wb) U5 K.bB K.bB.length=d by rw[hR.2,show e=K.bB.length by omega]];exact bfN) [0,2,3]
  refine zD 3<|zW ((k:Int)+1)<|zD 2<|zV cU (⟨k+1,(x.qj k (.map (some AT))),LF++Z⟩) ⟨by dsimp only;omega,⟨aof.trans hI.2.1.1,aog (by omega) hI.2.1.2⟩,hI.2.2.snoc (by omega) hQ.2 λy hy=>by rw[aFQ aaM,<-hn];exact TX (f:=(λy=>yg n (Of Hs wi wb) y K.bB K.bB.length)) (show m<=ls.length by omega) y (by rw[List.take_of_length_le (by omega)];exact hy)⟩ [[1],[0,2]]
 refine zD 2<|zR _ [] [0,1] _ ⟨x,Z,rfl,hI.2.1,by rw[show K.aS.length=k by omega];exact hI.2.2,rfl⟩
def eX.inn(K:eX):kg:=⟨zI 0,zI 0,zI 0,zI 0,zI 0,zI 0,zI 0,K.days,K.stay,none,K.hs.length,0⟩
def G2(K:eX):List cz:=DZ K.inn
def sx(K:eX)(i j:Nat)(y:cz):Int:=match K.W[i]? with
 |some w=>mkG K K.hs (aiO K.hs (K.g w)) (λx=>decide (YM K.hs (K.g w) x>=0)) j y
 |none=>0
theorem aFP{K:eX}{i:Nat}{w:List Int}(h:K.W[i]?=some w):sx K i=mkG K K.hs (aiO K.hs (K.g w)) λx=>decide (YM K.hs (K.g w) x>=0):=by grind [sx]
def mj(K:eX)(need:Int):List bY:=iC K.days (G2 K) (sx K) K.aS.length K.W.length need
structure wj(K:eX):Prop where
 c:azv K
 e:ZT K=0
 n:(mj K (allM K.bB.length)).length<=1000000
theorem wj.h3{K:eX}(h:wj K):K.hs.length<=3:=h.c.h3
def wj.days{K:eX}(h:wj K):1<=K.days/\K.days<=4:=(DT h.e).2.2.2.1.1
theorem wj.bB{K:eX}(h:wj K):K.bB.length<=5:=(DT h.e).2.2.2.2.1
theorem wj.VM{K:eX}(h:wj K):1<=K.aS.length/\K.aS.length<=3:=agZ (DT h.e).1
theorem abL{f:fN->Int}:∀ {l:List fN},Eu f l=0->∀x∈l,f x=0
 | [],_,_,h=>by grind
 |y::l,h,x,hx=>by
  by_cases h0:f y=0
  .simp only[Eu,cN h0] at h;rcases aN.1 hx with rfl|hx
   .grind
   exact abL h x hx
  grind [Eu,cX,absurd]
theorem abP{x:fN}(h:gJ D x=0):0<=x.low/\x.low<=x.high/\x.high<=D-1:=by
 grind [gJ,pE,cN,absurd]
def ayN{ns:Nat}{hs:List ak}{x:fN}(h:Go.L.iY ns hs D x=0):0<=x.low/\x.low<=x.high/\x.high<=D-1:=by
 unfold Go.L.iY at h;cases hl:x.late with
 |true=>
  rw[hl] at h;cases h1: !pE x.st 0 ((ns:Int)-1) with
  |true=>rw[h1] at h;simp at h
  |false=>
   rw[h1] at h;cases h2:(!pE x.no 1 40|| !pE x.lt 0 4) with
   |true=>rw[h2] at h;simp at h
   |false=>rw[h2] at h;exact abP h
 |false=>
  rw[hl] at h;cases h1: !decide (bM (uh x.st x.no x.lt) hs 0>=0) with
  |true=>rw[h1] at h;simp at h
  |false=>rw[h1] at h;exact abP h
def wj.eok{K:eX}(h:wj K):auk K:=λx hx=>by
 have h1:=ayN (abL (DT h.e).2.2.2.2.2 x hx);have:=h.days;omega
structure Bv(ro:Nat->Option Obj)(Hb:Nat)(K:eX)(W:kg)(u:Value)(ls:List cz)(ps:List eI):Prop where
 r:Ct ro Hb W u K.aS.length K.bB.length ls ps (sx K)
 d:W.D=K.days
 l:nj ro [W.a0,W.a1,W.a2,W.a3,W.a4,zI W.D,zI W.S,W.a7] K
 hh:dk ro (.slice W.ha W.H W.iK) 3 bO K.hs
 hl:W.H=K.hs.length
 p:ls.Perm (G2 K)
 n:ps.length=K.W.length
def Bv.up{bU:Nat->Option Obj}{K:eX}{W:kg}{ls:List cz}{ps:List eI}(h:Bv ro Hb K W u ls ps)(hs:Sub ro bU):Bv bU Hb K W u ls ps:=
 ⟨h.r.up hs,h.d,h.l.up hs,h.hh.up hs,h.hl,h.p,h.n⟩
def Bv.OQ{K:eX}{W:kg}{ls:List cz}{ps:List eI}(h:Bv ro Hb K W u ls ps)(need:Int):(iC W.D ls (sx K) K.aS.length ps.length need).Perm (mj K need):=by
 rw[h.d,h.n];exact aiR h.p
theorem aen{W:kg}(hD:1<=W.D/\W.D<=4)(hH:W.H<=3):(DZ W).length<=256:=by
 have e2:=zn (l:=mZ 0 (W.H+1)) λh _=>U7 hD hH h
 grind [Hd,DZ]
def PsP(Z:Cells)(ps:List eI)(ls:List cz)(K:eX):Prop:=∀i x,ps[i]?=some x->RJ Z x K.aS.length ls (sx K i)
def PsP.snoc{Z Z2:Cells}{ps:List eI}{ls:List cz}{K:eX}{x:eI}(h:PsP Z ps ls K)(hx:RJ Z2 x K.aS.length ls (sx K ps.length)):PsP (Z2++Z) (ps++[x]) ls K:=by
 intro i y hy j hj;rw[List.getElem?_append] at hy;split at hy
 .obtain⟨r,es,ck,F,h1,h2,h3⟩:=h i y hy j hj;exact⟨r,es,ck,F,h1,gD _ h2,h3⟩
 rename_i hi;obtain⟨Sb,e⟩:=awl hy;have hii:i=ps.length:=by omega
 subst hii;subst e;obtain⟨r,es,ck,F,h1,h2,h3⟩:=hx j hj;exact⟨r,es,ck,F,h1,cZ _ h2,h3⟩
def ZM{x:eI}{o:Option Nat}(hw:x.w= .map o)(hm:∀j,∃o,x.m j=Value.map o):∀p∈[(⟨x.w,x.m0,x.m1,x.m2⟩:eI)],∀c∈Bn p,single c=true:=by
 intro p hp;rw[aU] at hp;obtain⟨a,ha⟩:=hm 0;obtain⟨b,hb⟩:=hm 1;obtain⟨c,hc⟩:=hm 2;simp only[eI.m] at ha hb hc;simp_all;exact aG rfl
def V8{K:eX}(hK:nj ro l K)(hV:wj K):azy zT 77 [.agg ⟨l⟩] ro [] (λr cK Y=>∃Hb W u ls ps,r= .tuple ⟨[zP Hb,zI 0]⟩/\Bv cK Hb K W u ls ps/\Y=[]):=by
 have hK0:=hK;obtain⟨vS,vT,vP,vR,vE,fa,fc,rfl,hS,hT,hp,hr,he⟩:=hK;have C3:=hp;have Ys:=he;have zi:=hr;obtain⟨gX,xY,xX,gF,rfl,A2,xk,xj⟩:=hp;obtain⟨gY,yK,yJ,gP,rfl,GQ,xo,xm⟩:=he;have kT:(aH K.str).Nodup:=B5 hV.c.xp _;have MQ:=qf (S:=K.str) hV.c.ways;have hWl:K.W.length<=4:=by simp only[eX.W,dE];exact MQ
 refine aBp (hm:=bD) [] [] de λfr=>zD 2<|jn λb1=>jd 6 [0]<|jc (vs:=[.agg ⟨[vS,vT,.slice fa 0 fc,.slice gX K.aS.length gF,vR,zI K.days,zI K.stay,.slice gY K.bB.length gP]⟩]) [] (aQT hK0 hV.c hV.e) ?_;rintro _ _ ⟨Hb,ha,hc,LH,wa,wn,wc,Lw,rfl,rfl,hoH,hwn,hWW⟩;refine jg 0 [zxc Hb 113 [vS,vT,.slice fa 0 fc,.slice gX K.aS.length gF,vR,zI K.days,zI K.stay,.slice gY K.bB.length gP,(.slice ha (aH K.str).length hc),zS,zS],.l LH,.l Lw]<|zD 19<|jcC (vs:=[zP Hb]) [0] (λ_ _ h=>h) (apQ (Hb:=Hb) (W:=⟨vS,vT,.slice fa 0 fc,.slice gX K.aS.length gF,vR,.slice gY K.bB.length gP,zS,K.days,K.stay,ha,(aH K.str).length,hc⟩) hV.days hV.h3) ?_;rintro _ _ ⟨rfl,ls,u,X,hls,hoL,rfl⟩;obtain⟨ua,uc,hue⟩:=hoL.form;subst hue;have Ee:ls.length<=256:=by rw[hls.length_eq];exact aen hV.days hV.h3
 refine jg 0 [zxc Hb 113 [vS,vT,.slice fa 0 fc,.slice gX K.aS.length gF,vR,zI K.days,zI K.stay,.slice gY K.bB.length gP,(.slice ha (aH K.str).length hc),(.slice ua ls.length uc),zS],.l X]<|jf [2,1,3] (LH++(X++Lw)) (λAD fq iu=>?_);have hHs:=hoH.ju (Knows.left iu);have hLs:=hoL.ju (Knows.left (Knows.right iu));have hWs:=hWW _ (Knows.right (Knows.right iu));obtain⟨wsW,xP,aCf⟩:=hWs;obtain⟨qWa,qWb,qWo,qWc,hWe,qWk,qWh,qWl⟩:=xP;simp only[Value.slice.injEq] at hWe;obtain⟨rfl,rfl,rfl⟩:=hWe;have hwl:=aCf.len;refine zD 9<|uI<|uI<|iz [1,1,1,1,0,1,0,0] [] (λ(zz:Nat×Value×Cells×(List eI)×Cells)=>[(2,.pointer none),(3,zI 0),(4,zP Hb),(21,.slice wa wsW.length wc),(22,zI (wsW.length:Int)),(23,zI (zz.1:Int))]) (λzz=>[zxc Hb 113 [vS,vT,.slice fa 0 fc,.slice gX K.aS.length gF,vR,zI K.days,zI K.stay,.slice gY K.bB.length gP,(.slice ha (aH K.str).length hc),(.slice ua ls.length uc),zz.2.1],.l zz.2.2.1,.l zz.2.2.2.2,.l fr]) (λzz=>zz.1<=wsW.length/\zz.2.2.2.1.length=zz.1/\bI zz.2.1 4 142 Bn zz.2.2.2.1 zz.2.2.1/\PsP zz.2.2.2.2 zz.2.2.2.1 ls K) (λzz=>wsW.length-zz.1) (⟨0,zS,[],[],[]⟩) ⟨Nat.zero_le _,rfl,bI.nil _ _ _,λ_ _ h=>by simp at h⟩ [2,1,0,4] ?_;rintro⟨i,vO,LP,ps,Z⟩ hI K1 cU rest;dsimp only at hI;refine zD 5<|zJ 24 ((i:Int) <(wsW.length:Int)) (λh4=>?_) λh4=>?_
 ·
  refine zD 6<|zxs wsW i wc 1 qWh (λwx jT=>?_);obtain⟨l26,aqT,h26⟩:=aCf.get jT;obtain aHF:=zL aqT;obtain aS5:=id h26;obtain⟨y26,aGC,aRV⟩:∃y,K.g l26=y.g/\Walk K.ways ⟨[],K.str,tY⟩ l26 y:=K.walk aHF;obtain⟨an7,bcE,bcC,Zy,rfl,bcD,av3,av2⟩:=h26;refine jl 0 (qWl _ _ jT)<|zD 6<|jcL (vs:=[zP Hb,.slice an7 l26.length Zy]) [] [0] [(Hb,.cells ⟨[vS,vT,.slice fa 0 fc,.slice gX K.aS.length gF,vR,zI K.days,zI K.stay,.slice gY K.bB.length gP,(.slice ha (aH K.str).length hc),(.slice ua ls.length uc),vO]⟩ 113 (0,0))] (λcK hs hZ=>bdq (W:=⟨vS,vT,.slice fa 0 fc,.slice gX K.aS.length gF,vR,.slice gY K.bB.length gP,vO,K.days,K.stay,ha,(aH K.str).length,hc⟩) (u:= .slice ua ls.length uc) (w:=l26) hZ.head (hS.up (fq.trans hs)) (hT.up (fq.trans hs)) (hHs.up ((Sub.refl _).trans hs)) hV.c (aS5.up ((Sub.refl _).trans hs)) aRV) ?_;rintro _ _ ⟨rm,F,rfl,aHE,aRZ⟩;rw[<-aGC] at aRZ;obtain⟨esW,ckW,rfl,hEW⟩:=aHE;refine jg 0 [.b rm (.map esW ckW)]<|zD 1<|jn λb9=>jd 1 [0]<|jf [1] [(rm,.map esW ckW)] (λro7 wW JD=>?_);have R8:=JD _ (.head _);refine zD 4<|jcL (vs:=[zP Hb,zP b9]) [0] [0] [(Hb,.cells ⟨[vS,vT,.slice fa 0 fc,.slice gX K.aS.length gF,vR,zI K.days,zI K.stay,.slice gY K.bB.length gP,(.slice ha (aH K.str).length hc),(.slice ua ls.length uc),vO]⟩ 113 (0,0))] (λcK hs hZ=>aQV (W:=⟨vS,vT,.slice fa 0 fc,.slice gX K.aS.length gF,vR,.slice gY K.bB.length gP,vO,K.days,K.stay,ha,(aH K.str).length,hc⟩) (u:= .slice ua ls.length uc) (pb:=b9) (rw:=rm) (o0:=none) (o1:=none) (o2:=none) (wi:=aiO K.hs (K.g l26)) (wb:=λx=>decide (YM K.hs (K.g l26) x>=0)) hZ.head (C3.up ((fq.trans wW).trans hs)) (hr.up ((fq.trans wW).trans hs)) (Ys.up ((fq.trans wW).trans hs)) (hLs.up (wW.trans hs)) (hHs.up (wW.trans hs)) hV.c hV.eok (by omega) (by have:=hV.h3;simp only[eX.hs] at this;omega) hV.VM.2 hV.bB (hs _ _ R8) hEW (amr aRZ)) ?_;rintro _ _ ⟨Nl,Z32,rfl,⟨hxw,hxm⟩,hMP,rfl⟩;refine jg 0 [zxc b9 142 [Nl.w,Nl.m0,Nl.m1,Nl.m2],.l Z32]<|jd 8 [2,0]<|zxo 6 λC7=>jn λSj=>eH C7 (zN 1 6)<|zxo 7 λtx=>gB (sz:=4) (ps:=ps) (qs:=[(⟨Nl.w,Nl.m0,Nl.m1,Nl.m2⟩:eI)]) (enc:=Bn) (w:= .slice (some ⟨Sj,0,none⟩) 1 1) [4] [0] [(Sj,.cells ⟨([(⟨Nl.w,Nl.m0,Nl.m1,Nl.m2⟩:eI)].map Bn).flatten⟩ 142 (0,0))] (hI.2.2.1) (λs _ hZ=>dg [(⟨Nl.w,Nl.m0,Nl.m1,Nl.m2⟩:eI)] (hZ _ (.head _)) (by intro p hp;rfl)) (ZM hxw hxm) (by simp only[List.length_cons,List.length_nil];omega) (λv40 L40 nX=>?_);obtain⟨JR,JN,KU⟩:=nX.form;subst KU;refine ee tx []<|zD 2<|zxo 10 λtw=>jd 1 [4]<|ee tw []<|zD 2<|zW ((i:Int)+1)<|zD 2<|B0 cU (⟨i+1,(.slice JR ((ps++[(⟨Nl.w,Nl.m0,Nl.m1,Nl.m2⟩:eI)])).length JN),L40,(ps++[(⟨Nl.w,Nl.m0,Nl.m1,Nl.m2⟩:eI)]),Z32++Z⟩) ⟨by dsimp only;omega,by dsimp only;simp only[zM];omega,nX,hI.2.2.2.snoc (by rw[hI.2.1,aFP aqT];exact hMP)⟩ (by dsimp only;omega) [[4],[0],[3,5],[6]] wW
 refine zD 7<|jf [0,1,2] ((Hb,.cells ⟨[vS,vT,.slice fa 0 fc,.slice gX K.aS.length gF,vR,zI K.days,zI K.stay,.slice gY K.bB.length gP,(.slice ha (aH K.str).length hc),(.slice ua ls.length uc),vO]⟩ 113 (0,0))::(LP++Z)) (λbbH aj5 aHT=>?_);have xw:Bv bbH Hb K ⟨vS,vT,.slice fa 0 fc,.slice gX K.aS.length gF,vR,.slice gY K.bB.length gP,vO,K.days,K.stay,ha,(aH K.str).length,hc⟩ (.slice ua ls.length uc) ls ps:=⟨⟨aHT _ (.head _),hV.days,hV.VM.2,⟨_,rfl,C3.up (fq.trans aj5)⟩,⟨_,rfl,Ys.up (fq.trans aj5)⟩,hV.bB,hLs.up aj5,by omega,hI.2.2.1.ju (Knows.left (Knows.tail aHT)),by omega,λi x hx j hj=>by obtain⟨r,es,ck,F,h1,h2,h3,h4⟩:=hI.2.2.2 i x hx j hj;exact⟨r,es,ck,F,h1,(Knows.right (Knows.tail aHT)) _ h2,h3,h4⟩⟩,rfl,hK0.up (fq.trans aj5),hHs.up aj5,rfl,hls,by omega⟩;refine zD 2<|aRx qC.a.a (.tuple ⟨[zP Hb,zI 0]⟩) [0] [] (fq.trans aj5) ⟨Hb,_,_,ls,ps,rfl,xw,rfl⟩
abbrev ePr(x:Int×Int):List Value:=[zI x.1,zI x.2]
def Ow(xs:List (Int×Int)):Prop:=xs.length<=10/\∀x∈xs,0<=x.1/\x.1 <x.2/\x.2<=1000000
def awg{a c d:Int}(h:0<=a/\a <b/\b<=1000000)(h2:0<=c/\c <d/\d<=1000000):Ow [(a,b),(c,d)]:=⟨by simp,λx hx=>by
 rcases aN.1 hx with rfl|hx
 .exact h
 rw[aU] at hx;subst hx;exact h2⟩
def aF1{K:eX}{W:kg}{ls:List cz}{ps:List eI}(hI:Bv ro Hb K W u ls ps)(g1:ro b1=some (.cells ⟨[zI (p:Int)]⟩ 3 (0,0)))(g2:ro b2=some (.cells ⟨[zI (d:Int)]⟩ 3 (0,0))):eT zT 55 [zP Hb,zP b1,zP b2] ro [] (λr Y=>bI r 2 114 ePr [((p:Int),(K.aS.length:Int)),((d:Int),K.days)] Y):=by
 have eJ:=hI.r;obtain⟨xs,Jx,xO⟩:=eJ.pe;obtain⟨qi,Yh,Yf,qd,zh,Yg,VI,VH⟩:=xO;obtain⟨es,vK,nJ⟩:=eJ.e;obtain⟨gY,yK,yJ,gP,yV,GQ,xo,xm⟩:=nJ;obtain⟨fO,rh,q9,fb,hle,sV,mR,nN⟩:=eJ.l;obtain⟨gX,xY,xX,gF,Bd,A2,xk,xj⟩:=eJ.p;obtain⟨rE,Zx,Zv,qV,Qv,Zw,VK,VJ⟩:=hI.hh;have hH:ro Hb=some (.cells ⟨[W.a0,W.a1,W.a2,.slice qi xs.length qd,W.a4,zI W.D,zI W.S,.slice gY es.length gP,.slice rE K.hs.length qV,.slice fO ls.length fb,.slice gX ps.length gF]⟩ 113 (0,0)):=by rw[<-zh,<-yV,<-hle,<-Bd,<-Qv];exact eJ.h
 have Yn:=eJ.n3;have Ug:=eJ.e5;have Ee:=eJ.ll;have wm:=eJ.pl;have Yt:=eJ.d;have NK:=hI.d;refine zE<|zD 6<|jl (b:=b1) (off:=0) (m:=1) (vs:=[zI (p:Int)]) 0 ⟨_,_,_,.inl g1,rfl⟩<|zD 4<|jl (b:=Hb) (off:=0) (m:=11) (vs:=[W.a0,W.a1,W.a2,.slice qi xs.length qd,W.a4,zI W.D,zI W.S,.slice gY es.length gP,.slice rE K.hs.length qV,.slice fO ls.length fb,.slice gX ps.length gF]) 3 ⟨_,_,_,.inl hH,rfl⟩<|zD 2<|jl (b:=b2) (off:=0) (m:=1) (vs:=[zI (d:Int)]) 0 ⟨_,_,_,.inl g2,rfl⟩<|zD 4<|jl (b:=Hb) (off:=0) (m:=11) (vs:=[W.a0,W.a1,W.a2,.slice qi xs.length qd,W.a4,zI W.D,zI W.S,.slice gY es.length gP,.slice rE K.hs.length qV,.slice fO ls.length fb,.slice gX ps.length gF]) 5 ⟨_,_,_,.inl hH,rfl⟩<|zD 1<|zxo 15 λuk=>jn λb20=>eH uk []<|zD 3<|zR _ [] [0] _ (by simp only[<-Jx,<-vK,<-NK];exact gR (b:=b20) (T:=114) [((p:Int),(xs.length:Int)),((d:Int),W.D)] rfl (λ_ _=>rfl))
def aQN{K:eX}{W:kg}{ls:List cz}{ps:List eI}(hI:Bv ro Hb K W u ls ps)(g1:ro b1=some (.cells ⟨[zI (p:Int)]⟩ 3 (0,0)))(g2:ro b2=some (.cells ⟨[zI (d:Int)]⟩ 3 (0,0))):eT zT 59 [zP Hb,zP b1,zP b2] ro [] (λr Y=>bI r 2 114 ePr [((p:Int),(K.hs.length:Int)),((d:Int),K.days)] Y):=by
 have eJ:=hI.r;obtain⟨xs,Jx,xO⟩:=eJ.pe;obtain⟨qi,Yh,Yf,qd,zh,Yg,VI,VH⟩:=xO;obtain⟨es,vK,nJ⟩:=eJ.e;obtain⟨gY,yK,yJ,gP,yV,GQ,xo,xm⟩:=nJ;obtain⟨fO,rh,q9,fb,hle,sV,mR,nN⟩:=eJ.l;obtain⟨gX,xY,xX,gF,Bd,A2,xk,xj⟩:=eJ.p;obtain⟨rE,Zx,Zv,qV,Qv,Zw,VK,VJ⟩:=hI.hh;have hH:ro Hb=some (.cells ⟨[W.a0,W.a1,W.a2,.slice qi xs.length qd,W.a4,zI W.D,zI W.S,.slice gY es.length gP,.slice rE K.hs.length qV,.slice fO ls.length fb,.slice gX ps.length gF]⟩ 113 (0,0)):=by rw[<-zh,<-yV,<-hle,<-Bd,<-Qv];exact eJ.h
 have Yn:=eJ.n3;have Ug:=eJ.e5;have Ee:=eJ.ll;have wm:=eJ.pl;have Yt:=eJ.d;have NK:=hI.d;refine zE<|zD 6<|jl (b:=b1) (off:=0) (m:=1) (vs:=[zI (p:Int)]) 0 ⟨_,_,_,.inl g1,rfl⟩<|zD 3<|jl (b:=Hb) (off:=0) (m:=11) (vs:=[W.a0,W.a1,W.a2,.slice qi xs.length qd,W.a4,zI W.D,zI W.S,.slice gY es.length gP,.slice rE K.hs.length qV,.slice fO ls.length fb,.slice gX ps.length gF]) 8 ⟨_,_,_,.inl hH,rfl⟩<|zD 2<|jl (b:=b2) (off:=0) (m:=1) (vs:=[zI (d:Int)]) 0 ⟨_,_,_,.inl g2,rfl⟩<|zD 4<|jl (b:=Hb) (off:=0) (m:=11) (vs:=[W.a0,W.a1,W.a2,.slice qi xs.length qd,W.a4,zI W.D,zI W.S,.slice gY es.length gP,.slice rE K.hs.length qV,.slice fO ls.length fb,.slice gX ps.length gF]) 5 ⟨_,_,_,.inl hH,rfl⟩<|zD 1<|zxo 14 λuk=>jn λEI=>eH uk []<|zD 3<|zR _ [] [0] _ (by simp only[<-Jx,<-vK,<-NK];exact gR (b:=EI) (T:=114) [((p:Int),(K.hs.length:Int)),((d:Int),W.D)] rfl (λ_ _=>rfl))
def G4{K:eX}{f:FuncId}(hK:nj ro l K)(hV:wj K)(JF:HM zT f=true)(hpr:∀bU Hb W u ls ps,Sub ro bU->Bv bU Hb K W u ls ps->eT zT f (fi++[zP Hb]++ca) bU [] (λr Y=>∃xs,bI r 2 114 ePr xs Y/\Ow xs)):azy zT 54 [.agg ⟨l⟩,(.func (.func f) ⟨fi⟩ ⟨ca⟩)] ro [] (λr cK Y=>∃Hb W u ls ps,r= .tuple ⟨[zP Hb,zI 0]⟩/\Bv cK Hb K W u ls ps/\Y=[]):=by
 have cU:=hK;obtain⟨vS,vT,vP,vR,vE,fa,fc,rfl,hS,hT,hp,hr,he⟩:=hK;have C3:=hp;have Ys:=he;have zi:=hr;obtain⟨gX,xY,xX,gF,rfl,A2,xk,xj⟩:=hp;obtain⟨gY,yK,yJ,gP,rfl,GQ,xo,xm⟩:=he;refine aBp (hm:=bD) [] [] de λfr=>zD 2<|jn λb2=>jd 6 [0]<|Qb (vs:=[.agg ⟨[vS,vT,.slice fa 0 fc,.slice gX K.aS.length gF,vR,zI K.days,zI K.stay,.slice gY K.bB.length gP]⟩]) [] (λ_ _ h=>h) (V8 cU hV) ?_;rintro _ cK _ fq ⟨Hb,W,u,ls,ps,rfl,xw,rfl⟩;refine jg 0 []<|zD 19<|jcF (vs:=fi++[Value.pointer (some ⟨Hb,0,none⟩)]++ca) [] JF (hpr _ _ _ _ _ _ fq xw) ?_;rintro v20 Y20 ⟨xs,aa4,xO⟩;obtain⟨JU,JO,WC⟩:=aa4.form;subst WC;have hxl:=xO.1;refine zD 4<|iz [1,1,1,0,1,0,0] [] (λ(zz:Nat)=>[(6,zP Hb),(20,(.slice JU xs.length JO)),(21,zI (xs.length:Int)),(22,zI (zz:Int))]) (λzz=>[.l Y20,zxc b2 33 [vS,vT,.slice fa 0 fc,.slice gX K.aS.length gF,vR,zI K.days,zI K.stay,.slice gY K.bB.length gP],.l fr]) (λzz=>zz<=xs.length) (λzz=>xs.length-zz) 0 (bQ _) [0,1,2] ?_;rintro k hI K1 cU rest;refine zD 5<|zJ 23 ((k:Int) <(xs.length:Int)) (λh2=>?_) λh2=>?_
 ·
  refine zD 6 ?_;obtain⟨OC,Ed⟩:=zG xs k;refine jxo 2 aa4 Ed λb24 bhh=>yL 0 [0] Y20 (λs _ hZ=>kN aa4 bhh hZ Ed)<|jn λb9=>jd 3 [0] ?_;have hq:=xO.2 _ (zL Ed);refine jd 5 [0,0]<|zW (OC.2-1)<|zxp [zI OC.1,zI 0,zI (OC.2-1)] (λhs=>SH)<|zD 2<|js 32 (!(pE OC.1 0 (OC.2-1))) (λh3=>?_) (λh3=>?_)
  ·
   try simp only[zB] at h3
   exfalso;simp[pE] at h3;omega
  try simp only[zB] at h3
  refine zD 3<|zW ((k:Int)+1)<|zD 2<|zY cU (k+1) (by omega) [1,2,3]
 refine zD 9<|aRx qC.a (.tuple ⟨[zP Hb,zI 0]⟩) [2] [] fq ⟨Hb,W,u,ls,ps,rfl,xw,rfl⟩
def UY(f:bY->Int)(L:List bY)(ds:List Int):Prop:=ds.Nodup/\(ds.all λx=>L.any λt=>decide (f t=x))=true/\(L.all λt=>ds.contains (f t))=true
def UY.perm{f:bY->Int}{L L':List bY}(h:UY f L' ds)(hL:L.Perm L')(hz:zs.Perm ((Wb f L).map (·.1))):zs.Perm ds:=ajT hz hL h.1 h.2.1 h.2.2
theorem UY.len{f:bY->Int}{L L':List bY}(h:UY f L' ds)(hL:L.Perm L'):(Wb f L).length=ds.length:=by
 have:=(h.perm hL (.refl _)).length_eq;simpa using this
def P6{K:eX}(hK:nj ro l K)(hV:wj K):Sm zT 26 [.agg ⟨l⟩] ro [] (λr Y=>r= .tuple ⟨[zI ((mj K (allM K.bB.length)).length:Int),zI 0]⟩/\Y=[]):=by
 have cU:=hK;obtain⟨vS,vT,vP,vR,vE,fa,fc,rfl,hS,hT,hp,hr,he⟩:=hK;have C3:=hp;have Ys:=he;have zi:=hr;obtain⟨gX,xY,xX,gF,rfl,A2,xk,xj⟩:=hp;obtain⟨gY,yK,yJ,gP,rfl,GQ,xo,xm⟩:=he;have hpp:=hV.VM;have Sc:=hV.days;have yV:=hV.bB;refine Qa bD [] [] de λfr=>zD 2<|jn λb1=>jd 6 [0]<|Qb (vs:=[.agg ⟨[vS,vT,.slice fa 0 fc,.slice gX K.aS.length gF,vR,zI K.days,zI K.stay,.slice gY K.bB.length gP]⟩]) [] (λ_ _ h=>h) (V8 cU hV) ?_;rintro _ cK _ fq ⟨Hb,W,u,ls,ps,rfl,xw,rfl⟩;have HL:=xw.OQ (allM K.bB.length);have MQ:=HL.length_eq;refine jg 0 []<|zD 18<|jc (vs:=[zP Hb,.agg ⟨[.nilFunc]⟩]) [] (aw2 xw.r (by rw[MQ];exact hV.n)) ?_;rintro _ _ ⟨rfl,rfl⟩;refine jg 0 []<|zD 4<|jrC qC.a (.tuple ⟨[zI ((iC W.D ls (sx K) K.aS.length ps.length (allM K.bB.length)).length:Int),zI 0]⟩) [1] [] fq ⟨by rw[MQ],rfl⟩
def aw0{K:eX}(hK:nj ro l K)(hV:wj K)(hp:p <K.aS.length)(hd:(d:Int) <K.days)(hT:0 <(mj K (allM K.bB.length)).length)(hds:UY (λt:bY=>(t.at p).at d) (mj K (allM K.bB.length)) ds)(hdl:ds.length<=12):Sm zT 14 [.agg ⟨l⟩,zI (p:Int),zI (d:Int)] ro [] (λr Y=>∃v zs,r= .tuple ⟨[v,zI 0]⟩/\zs.Perm ds/\bI v 1 3 eC (wS zs) Y):=by
 have cU:=hK;obtain⟨vS,vT,vP,vR,vE,fa,fc,rfl,hS,hT,hp,hr,he⟩:=hK;have C3:=hp;have Ys:=he;have zi:=hr;obtain⟨gX,xY,xX,gF,rfl,A2,xk,xj⟩:=hp;obtain⟨gY,yK,yJ,gP,rfl,GQ,xo,xm⟩:=he;have hpp:=hV.VM;have Sc:=hV.days;have yV:=hV.bB;refine Qa bD [] [] de λfr=>zD 2<|jn λb3=>jn λb4=>jn λb5=>zD 2<|jf [1,0] ((b4,.cells ⟨[zI (p:Int)]⟩ 3 (0,0))::[(b5,.cells ⟨[zI (d:Int)]⟩ 3 (0,0))]) λAD fq iu=>jd 5 [0]<|Qb (vs:=[.agg ⟨[vS,vT,.slice fa 0 fc,.slice gX K.aS.length gF,vR,zI K.days,zI K.stay,.slice gY K.bB.length gP]⟩,.func (.func 55) ⟨[]⟩ ⟨[zP b4,zP b5]⟩]) [] (λ_ _ h=>h) (G4 (f:=55) (fi:=[]) (ca:=[zP b4,zP b5]) (cU.up fq) hV (by kernel_rfl) (λbU Hb W u ls ps hs hI=>(aF1 hI (hs _ _ (iu _ (.head _))) (hs _ _ (iu _ (.tail _ (.head _))))).mono λ_ _ h=>⟨_,h,awg (by omega) (by omega)⟩)) ?_;rintro _ ro4 _ yj ⟨Hb,W,u,ls,ps,rfl,xw,rfl⟩;have HL:=xw.OQ (allM K.bB.length);have MQ:=HL.length_eq;have NK:=xw.d;refine jg 0 []<|zD 16<|jmk BZ λr20 L20 aHH=>jn λCH=>jd 1 [0]<|jf [0] [(CH,.cells ⟨[(.map (some r20))]⟩ 117 (0,0))] λro7 wW JD=>zD 7<|jc (vs:=[zP Hb,.agg ⟨[.func (.func 57) ⟨[]⟩ ⟨[zP CH,zP b4,zP b5]⟩]⟩]) [0] (D5 (f:=57) (fi:=[]) (ca:=[zP CH,zP b4,zP b5]) (Jn:=λk Y=>g9 r20 BZ (Wb (λt:bY=>(t.at p).at d) ((iC W.D ls (sx K) K.aS.length ps.length (allM K.bB.length)).take k)) Y) (xw.r.up wW) (by kernel_rfl) aHH (λk x hx bU hs B hB=>(aw1 (hs _ _ (JD _ (.head _))) (hs _ _ (wW _ _ (yj _ _ (iu _ (.head _))))) (hs _ _ (wW _ _ (yj _ _ (iu _ (.tail _ (.head _)))))) (by omega) (by omega) hB).mono λ_ _ h=>by rw[T4 hx];exact h.2) (by rw[MQ];exact hV.n)) ?_;rintro _ Y99 ⟨rfl,yt⟩;simp only[List.take_length] at yt;obtain⟨esS,ckS,rfl,hES⟩:=yt;refine jg 0 [.b r20 (.map esS ckS)]<|zD 1<|jf [0] [(r20,.map esS ckS)] (λaOA hs8 SV=>?_);have hmS:=SV _ (.head _);refine zD 1<|zJ 25 (((iC W.D ls (sx K) K.aS.length ps.length (allM K.bB.length)).length:Int)=0) (λyX=>?_) λyX=>?_
 ·
  exfalso;omega
 refine zD 4<|jl (b:=CH) (off:=0) (m:=1) (vs:=[(.map (some r20))]) 0 ⟨_,_,_,.inl (hs8 _ _ (JD _ (.head _))),rfl⟩<|jc (vs:=[(.map (some r20))]) [] (apD hmS hES (by rw[hds.len HL];exact hdl)) ?_;rintro v88 L88 ⟨zs,hzs,aa2⟩;obtain⟨amC,amw,aq6⟩:=aa2.form;subst aq6;refine zD 4<|jrC qC.a.a.a.a (.tuple ⟨[(.slice amC (wS zs).length amw),zI 0]⟩) [0,2] L88 (((fq.trans yj).trans wW).trans hs8) ⟨_,zs,rfl,hds.perm HL hzs,aa2⟩
def aQM{K:eX}(hK:nj ro l K)(hV:wj K)(hp:p <K.hs.length)(hd:(d:Int) <K.days)(hT:0 <(mj K (allM K.bB.length)).length)(hds:UY (λt:bY=>La K.aS.length t (p:Int) d) (mj K (allM K.bB.length)) ds)(hdl:ds.length<=12):Sm zT 15 [.agg ⟨l⟩,zI (p:Int),zI (d:Int)] ro [] (λr Y=>∃v zs,r= .tuple ⟨[v,zI 0]⟩/\zs.Perm ds/\bI v 1 3 eC (wS zs) Y):=by
 have cU:=hK;obtain⟨vS,vT,vP,vR,vE,fa,fc,rfl,hS,hT,hp,hr,he⟩:=hK;have C3:=hp;have Ys:=he;have zi:=hr;obtain⟨gX,xY,xX,gF,rfl,A2,xk,xj⟩:=hp;obtain⟨gY,yK,yJ,gP,rfl,GQ,xo,xm⟩:=he;have hpp:=hV.VM;have Sc:=hV.days;have yV:=hV.bB;have hh3:=hV.h3;refine Qa bD [] [] de λfr=>zD 2<|jn λb3=>jn λb4=>jn λb5=>zD 2<|jf [1,0] ((b4,.cells ⟨[zI (p:Int)]⟩ 3 (0,0))::[(b5,.cells ⟨[zI (d:Int)]⟩ 3 (0,0))]) λAD fq iu=>jd 5 [0]<|Qb (vs:=[.agg ⟨[vS,vT,.slice fa 0 fc,.slice gX K.aS.length gF,vR,zI K.days,zI K.stay,.slice gY K.bB.length gP]⟩,.func (.func 59) ⟨[]⟩ ⟨[zP b4,zP b5]⟩]) [] (λ_ _ h=>h) (G4 (f:=59) (fi:=[]) (ca:=[zP b4,zP b5]) (cU.up fq) hV (by kernel_rfl) (λbU Hb W u ls ps hs hI=>(aQN hI (hs _ _ (iu _ (.head _))) (hs _ _ (iu _ (.tail _ (.head _))))).mono λ_ _ h=>⟨_,h,awg (by omega) (by omega)⟩)) ?_;rintro _ ro4 _ yj ⟨Hb,W,u,ls,ps,rfl,xw,rfl⟩;have HL:=xw.OQ (allM K.bB.length);have MQ:=HL.length_eq;have NK:=xw.d;refine jg 0 []<|zD 16<|jmk BZ λr21 L21 aST=>jn λCH=>jd 6 [0]<|jn λwM=>jd 1 [0]<|jf [1,0] ((CH,.cells ⟨[(.map (some r21))]⟩ 117 (0,0))::[(wM,.cells ⟨[.func (.func 60) ⟨[zP Hb]⟩ ⟨[]⟩]⟩ 128 (0,0))]) λro7 wW JD=>zD 7<|jc (vs:=[zP Hb,.agg ⟨[.func (.func 61) ⟨[]⟩ ⟨[zP CH,zP wM,zP b4,zP b5]⟩]⟩]) [0] (D5 (f:=61) (fi:=[]) (ca:=[zP CH,zP wM,zP b4,zP b5]) (Jn:=λk Y=>g9 r21 BZ (Wb (λt:bY=>La K.aS.length t (p:Int) d) ((iC W.D ls (sx K) K.aS.length ps.length (allM K.bB.length)).take k)) Y) (xw.r.up wW) (by kernel_rfl) aST (λk x hx bU hs B hB=>(aQO (xw.r.up (wW.trans hs)) (hs _ _ (JD _ (.head _))) (hs _ _ (JD _ (.tail _ (.head _)))) (hs _ _ (wW _ _ (yj _ _ (iu _ (.head _))))) (hs _ _ (wW _ _ (yj _ _ (iu _ (.tail _ (.head _)))))) (by omega) hB).mono λ_ _ h=>by rw[T4 hx];exact h.2) (by rw[MQ];exact hV.n)) ?_;rintro _ Y99 ⟨rfl,yt⟩;simp only[List.take_length] at yt;obtain⟨esS,ckS,rfl,hES⟩:=yt;refine jg 0 [.b r21 (.map esS ckS)]<|zD 1<|jf [0] [(r21,.map esS ckS)] (λaOA hs8 SV=>?_);have hmS:=SV _ (.head _);refine zD 1<|zJ 28 (((iC W.D ls (sx K) K.aS.length ps.length (allM K.bB.length)).length:Int)=0) (λyX=>?_) λyX=>?_
 ·
  exfalso;omega
 refine zD 4<|jl (b:=CH) (off:=0) (m:=1) (vs:=[(.map (some r21))]) 0 ⟨_,_,_,.inl (hs8 _ _ (JD _ (.head _))),rfl⟩<|jc (vs:=[(.map (some r21))]) [] (apD hmS hES (by rw[hds.len HL];exact hdl)) ?_;rintro v88 L88 ⟨zs,hzs,aa2⟩;obtain⟨amC,amw,aq6⟩:=aa2.form;subst aq6;refine zD 4<|jrC qC.a.a.a.a (.tuple ⟨[(.slice amC (wS zs).length amw),zI 0]⟩) [0,2] L88 (((fq.trans yj).trans wW).trans hs8) ⟨_,zs,rfl,hds.perm HL hzs,aa2⟩
def eqI:List Int->List Int->Bool
 | [],[]=>true
 |x::l,y::m=>decide (x=y)&&eqI l m
 |_,_=>false
theorem as2:∀ {l m:List Int},¬l.length=m.length->eqI l m=false
 | [],[],h=>absurd rfl h
 | [],_::_,_=>rfl
 |_::_,[],_=>rfl
 |x::l,y::m,h=>by rw[eqI,as2 (by grind),Bool.and_false]
theorem as3{k:Nat}(hx:xs[k]?=some x) (hy:ys[k]?=some y):eqI (xs.drop k) (ys.drop k)=(decide (x=y)&&eqI (xs.drop (k+1)) (ys.drop (k+1))):=by rw[lB hx,lB hy];rfl
theorem ayL{k:Nat}(hx:¬k <xs.length)(h:xs.length=ys.length):eqI (xs.drop k) (ys.drop k)=true:=by rw[py hx,py (by omega)];rfl
def Bp:List Int->List Int->Int
 | [],[]=>0
 | [],_::_=> -1
 |_::_,[]=>1
 |x::xs,y::ys=>if uf x y=0 then Bp xs ys else uf x y
theorem ab0{k:Nat}(hx:xs[k]?=some x) (hy:ys[k]?=some y):Bp (xs.drop k) (ys.drop k)=if uf x y=0 then Bp (xs.drop (k+1)) (ys.drop (k+1)) else uf x y:=by rw[lB hx,lB hy];rfl
theorem akP{k:Nat}(hx:xs[k]?=some x) (hy:¬k <ys.length):Bp (xs.drop k) (ys.drop k)=1:=by rw[lB hx,py hy];rfl
theorem UQ{k:Nat}(hx:¬k <xs.length):Bp (xs.drop k) (ys.drop k)=if k <ys.length then-1 else 0:=by
 rw[py hx];split
 .rename_i h;rw[gN h];rfl
 rename_i h;rw[py h];rfl
def rQ(f:Int):Int:=([0,1,1,2,1,2,2,3,1,2,2,3,2,3,3,4,1,2,2,3,2,3,3,4,2,3,3,4,3,4,4,5]:List Int).getD f.toNat 0
def AQ(t:Int->Bool)(b c:Int):Int:=bif decide (rQ c>rQ b) then b else bif decide (rQ c=rQ b)&&decide (Bp (nV c 5) (nV b 5)>=0) then b else bif t c then c else b
def Xk(t:Int->Bool)(n:Nat):Nat->Int
 |0=>allM n
 |c+1=>AQ t (Xk t n c) (c:Int)
def asJ(t:Int->Bool)(n:Nat):List Int:=nV (Xk t n (2^n)) 5
def azp(h:n<=5):0<=allM n/\allM n <32:=by
 have:n=0\/n=1\/n=2\/n=3\/n=4\/n=5:=by omega
 rcases this with rfl|rfl|rfl|rfl|rfl|rfl<;>decide
def avA(h:n<=5):iU .i64 1 (n:Int)=((2^n:Nat):Int)/\2^n<=32:=by
 have:n=0\/n=1\/n=2\/n=3\/n=4\/n=5:=by omega
 rcases this with rfl|rfl|rfl|rfl|rfl|rfl<;>exact⟨by rfl,by simp⟩
theorem aM4{c:Nat}(h:c <32):Value.int .u8 (IntKind.u8.wrap (c:Int))= .int .u8 (c:Int):=by
 rw[AI .u8 rfl _ (by simp) (by grind [IntKind.bits])]
def aVo{v w:Value}(hv:dk ro v 1 eC xs)(hw:dk ro w 1 eC ys)(hx:xs.length<=1000)(hy:ys.length<=1000):iI zT 16 [v,w] ro (.bool (eqI xs ys)):=by
 obtain⟨Zs,qvb,qvo,Nq,rfl,qvk,qvh,qvl⟩:=hv;obtain⟨wC,R3,R2,uF,rfl,qwk,MB,MA⟩:=hw;refine zE<|zD 13<|js 10 (!decide ((xs.length:Int)=(ys.length:Int))) (λh1=>?_) (λh1=>?_)
 ·
  replace h1:=af (by simpa using h1);refine zD 6<|zX _ ⟨by rw[as2 (by omega)],rfl⟩
 replace h1:=ah (by simpa using h1);refine zD 8<|iz [1,1,0,1,0,0] [] (λ(zz:Nat)=>[(0,.slice Zs xs.length Nq),(1,.slice wC ys.length uF),(5,zI (zz:Int))]) (λzz=>[]) (λzz=>zz<=xs.length/\eqI xs ys=eqI (xs.drop zz) (ys.drop zz)) (λzz=>xs.length-zz) 0 ⟨by omega,rfl⟩ [] ?_;rintro k hI K1 cU rest;refine zD 8<|zJ 14 ((k:Int) <(xs.length:Int)) (λh2=>?_) λh2=>?_
 ·
  refine zD 8<|zxt xs k Nq 1 qvh qvl λGa B3=>zD 2<|zxt ys k uF 1 MB MA λpF rV=>zD 2<|js 25 (!decide (Ga=pF)) (λh3=>?_) (λh3=>?_)
  ·
   replace h3:=af (by simpa using h3);refine zD 6<|zX _ ⟨by rw[hI.2,as3 B3 rV,cX (by omega),wR],rfl⟩
  replace h3:=ah (by simpa using h3);refine zD 4<|zW ((k:Int)+1)<|zD 2<|zY cU (k+1) ⟨by omega,by rw[hI.2,as3 B3 rV,cN (by omega),F8]⟩ []
 refine zD 7<|zX _ ⟨by rw[hI.2,ayL (by omega) (by omega)],rfl⟩
def bed{v w:Value}(hv:dk ro v 1 eC xs)(hw:dk ro w 1 eC ys)(hx:xs.length<=1000)(hy:ys.length<=1000):iI zT 115 [v,w] ro (zI (Bp xs ys)):=by
 obtain⟨Zs,qvb,qvo,Nq,rfl,qvk,qvh,qvl⟩:=hv;obtain⟨wC,R3,R2,uF,rfl,qwk,MB,MA⟩:=hw;refine zE<|zD 12<|iz [1,0,1,0,0] [] (λ(zz:Nat)=>[(0,.slice Zs xs.length Nq),(1,.slice wC ys.length uF),(9,.slice Zs xs.length Nq),(10,zI (xs.length:Int)),(11,zI (zz:Int))]) (λzz=>[]) (λzz=>(zz<=xs.length/\zz<=ys.length)/\Bp xs ys=Bp (xs.drop zz) (ys.drop zz)) (λzz=>xs.length-zz) 0 ⟨by omega,rfl⟩ [] ?_;rintro k hI K1 cU rest;refine zD 5<|zJ 12 ((k:Int) <(xs.length:Int)) (λh1=>?_) λh1=>?_
 ·
  refine zD 7<|zxt xs k Nq 1 qvh qvl λvt iD=>zD 11<|zJ 19 ((k:Int)>=(ys.length:Int)) (λh2=>?_) λh2=>?_
  ·
   refine zD 6<|zX _ ⟨by rw[hI.2,akP iD (by omega)],rfl⟩
  refine zD 6<|zxt ys k uF 1 MB MA λNm jL=>zD 6<|zxp [zI vt,zI Nm] (λhs=>ayu)<|zD 7<|js 28 (!decide ((uf vt Nm)=0)) (λh3=>?_) (λh3=>?_)
  ·
   replace h3:=af (by simpa using h3);refine zD 7<|zX _ ⟨by rw[hI.2,ab0 iD jL,cy (by omega)],rfl⟩
  replace h3:=ah (by simpa using h3);refine zD 3<|zW ((k:Int)+1)<|zD 2<|zY cU (k+1) ⟨by omega,by rw[hI.2,ab0 iD jL,dN (by omega)]⟩ []
 refine zD 11<|zJ 35 ((xs.length:Int) <(ys.length:Int)) (λh4=>?_) λh4=>?_
 ·
  refine zD 6<|zX _ ⟨by rw[hI.2,UQ (by omega),dN (by omega)],rfl⟩
 refine zD 7<|zX _ ⟨by rw[hI.2,UQ (by omega),cy (by omega)],rfl⟩
def aGp:iI zT 114 [.int .u8 0] ro (zI 0):=by
 refine zE<|zD 12<|zX _ ⟨rfl,rfl⟩
def aGo:iI zT 114 [.int .u8 1] ro (zI 1):=by
 refine zE<|zD 12<|zX _ ⟨rfl,rfl⟩
def aGn:iI zT 114 [.int .u8 2] ro (zI 1):=by
 refine zE<|zD 12<|zX _ ⟨rfl,rfl⟩
def aGm:iI zT 114 [.int .u8 3] ro (zI 2):=by
 refine zE<|zD 12<|zX _ ⟨rfl,rfl⟩
def aGl:iI zT 114 [.int .u8 4] ro (zI 1):=by
 refine zE<|zD 12<|zX _ ⟨rfl,rfl⟩
def aGk:iI zT 114 [.int .u8 5] ro (zI 2):=by
 refine zE<|zD 12<|zX _ ⟨rfl,rfl⟩
def aGj:iI zT 114 [.int .u8 6] ro (zI 2):=by
 refine zE<|zD 12<|zX _ ⟨rfl,rfl⟩
def aGi:iI zT 114 [.int .u8 7] ro (zI 3):=by
 refine zE<|zD 12<|zX _ ⟨rfl,rfl⟩
def aGh:iI zT 114 [.int .u8 8] ro (zI 1):=by
 refine zE<|zD 12<|zX _ ⟨rfl,rfl⟩
def aGg:iI zT 114 [.int .u8 9] ro (zI 2):=by
 refine zE<|zD 12<|zX _ ⟨rfl,rfl⟩
def axx:iI zT 114 [.int .u8 10] ro (zI 2):=by
 refine zE<|zD 12<|zX _ ⟨rfl,rfl⟩
def axw:iI zT 114 [.int .u8 11] ro (zI 3):=by
 refine zE<|zD 12<|zX _ ⟨rfl,rfl⟩
def axv:iI zT 114 [.int .u8 12] ro (zI 2):=by
 refine zE<|zD 12<|zX _ ⟨rfl,rfl⟩
def axu:iI zT 114 [.int .u8 13] ro (zI 3):=by
 refine zE<|zD 12<|zX _ ⟨rfl,rfl⟩
def axt:iI zT 114 [.int .u8 14] ro (zI 3):=by
 refine zE<|zD 12<|zX _ ⟨rfl,rfl⟩
def axs:iI zT 114 [.int .u8 15] ro (zI 4):=by
 refine zE<|zD 12<|zX _ ⟨rfl,rfl⟩
def axr:iI zT 114 [.int .u8 16] ro (zI 1):=by
 refine zE<|zD 12<|zX _ ⟨rfl,rfl⟩
def axq:iI zT 114 [.int .u8 17] ro (zI 2):=by
 refine zE<|zD 12<|zX _ ⟨rfl,rfl⟩
def axp:iI zT 114 [.int .u8 18] ro (zI 2):=by
 refine zE<|zD 12<|zX _ ⟨rfl,rfl⟩
def axo:iI zT 114 [.int .u8 19] ro (zI 3):=by
 refine zE<|zD 12<|zX _ ⟨rfl,rfl⟩
def axn:iI zT 114 [.int .u8 20] ro (zI 2):=by
 refine zE<|zD 12<|zX _ ⟨rfl,rfl⟩
def axm:iI zT 114 [.int .u8 21] ro (zI 3):=by
 refine zE<|zD 12<|zX _ ⟨rfl,rfl⟩
def axl:iI zT 114 [.int .u8 22] ro (zI 3):=by
 refine zE<|zD 12<|zX _ ⟨rfl,rfl⟩
def axk:iI zT 114 [.int .u8 23] ro (zI 4):=by
 refine zE<|zD 12<|zX _ ⟨rfl,rfl⟩
def axj:iI zT 114 [.int .u8 24] ro (zI 2):=by
 refine zE<|zD 12<|zX _ ⟨rfl,rfl⟩
def axi:iI zT 114 [.int .u8 25] ro (zI 3):=by
 refine zE<|zD 12<|zX _ ⟨rfl,rfl⟩
def axh:iI zT 114 [.int .u8 26] ro (zI 3):=by
 refine zE<|zD 12<|zX _ ⟨rfl,rfl⟩
def axg:iI zT 114 [.int .u8 27] ro (zI 4):=by
 refine zE<|zD 12<|zX _ ⟨rfl,rfl⟩
def axf:iI zT 114 [.int .u8 28] ro (zI 3):=by
 refine zE<|zD 12<|zX _ ⟨rfl,rfl⟩
def axe:iI zT 114 [.int .u8 29] ro (zI 4):=by
 refine zE<|zD 12<|zX _ ⟨rfl,rfl⟩
def axd:iI zT 114 [.int .u8 30] ro (zI 4):=by
 refine zE<|zD 12<|zX _ ⟨rfl,rfl⟩
def axc:iI zT 114 [.int .u8 31] ro (zI 5):=by
 refine zE<|zD 12<|zX _ ⟨rfl,rfl⟩
def aBo(h:0<=f/\f <32):iI zT 114 [.int .u8 f] ro (zI (rQ f)):=by
 obtain rfl|rfl|rfl|rfl|rfl|rfl|rfl|rfl|rfl|rfl|rfl|rfl|rfl|rfl|rfl|rfl|rfl|rfl|rfl|rfl|rfl|rfl|rfl|rfl|rfl|rfl|rfl|rfl|rfl|rfl|rfl|rfl:=(by omega:f=0\/f=1\/f=2\/f=3\/f=4\/f=5\/f=6\/f=7\/f=8\/f=9\/f=10\/f=11\/f=12\/f=13\/f=14\/f=15\/f=16\/f=17\/f=18\/f=19\/f=20\/f=21\/f=22\/f=23\/f=24\/f=25\/f=26\/f=27\/f=28\/f=29\/f=30\/f=31)
 .exact aGp
 .exact aGo
 .exact aGn
 .exact aGm
 .exact aGl
 .exact aGk
 .exact aGj
 .exact aGi
 .exact aGh
 .exact aGg
 .exact axx
 .exact axw
 .exact axv
 .exact axu
 .exact axt
 .exact axs
 .exact axr
 .exact axq
 .exact axp
 .exact axo
 .exact axn
 .exact axm
 .exact axl
 .exact axk
 .exact axj
 .exact axi
 .exact axh
 .exact axg
 .exact axf
 .exact axe
 .exact axd
 exact axc
def aw7{f:FuncId}{tst:Int->Bool}{W:kg}{ls:List cz}{ps:List eI}{mk:Nat->Nat->cz->Int}(eJ:Ct ro Hb W u np ne ls ps mk)(JF:HM zT f=true)(ht:∀bU c,Sub ro bU->eT zT f (fi++[.int .u8 c]++ca) bU [] (λr Y=>r= .bool (tst c)/\Y=[])):eT zT 78 [zP Hb,(.func (.func f) ⟨fi⟩ ⟨ca⟩)] ro [] (λr Y=>∃L,bI r 1 3 eC (asJ tst ne) L/\Y=L):=by
 obtain⟨xs,Jx,xO⟩:=eJ.pe;obtain⟨qi,Yh,Yf,qd,zh,Yg,VI,VH⟩:=xO;obtain⟨es,vK,nJ⟩:=eJ.e;obtain⟨gY,yK,yJ,gP,yV,GQ,xo,xm⟩:=nJ;obtain⟨fO,rh,q9,fb,hle,sV,mR,nN⟩:=eJ.l;obtain⟨gX,xY,xX,gF,Bd,A2,xk,xj⟩:=eJ.p;have hH:ro Hb=some (.cells ⟨[W.a0,W.a1,W.a2,.slice qi xs.length qd,W.a4,zI W.D,zI W.S,.slice gY es.length gP,(.slice W.ha W.H W.iK),.slice fO ls.length fb,.slice gX ps.length gF]⟩ 113 (0,0)):=by rw[<-zh,<-yV,<-hle,<-Bd];exact eJ.h
 have Yn:=eJ.n3;have Ug:=eJ.e5;have Ee:=eJ.ll;have wm:=eJ.pl;have Yt:=eJ.d;have hN:=avA (show es.length<=5 by omega);have hA:=azp (show ne<=5 by omega);refine aew bD [] [] de<|zD 8<|zxp [zP Hb] (λhs=>ahp (eJ.up hs))<|zD 11<|jl (b:=Hb) (off:=0) (m:=11) (vs:=[W.a0,W.a1,W.a2,.slice qi xs.length qd,W.a4,zI W.D,zI W.S,.slice gY es.length gP,(.slice W.ha W.H W.iK),.slice fO ls.length fb,.slice gX ps.length gF]) 7 ⟨_,_,_,.inl hH,rfl⟩<|zD 1<|jsh (k:= .i64) (k':= .i64) (a:=1) (b:=(es.length:Int)) 3 (by omega)<|zD 3<|iz [1,0,1,1,0,1,0,0] [] (λ(zz:Nat×Int)=>[(1,(.func (.func f) ⟨fi⟩ ⟨ca⟩)),(4,zS),(5,.int .u8 zz.2),(18,zI (iU .i64 1 (es.length:Int))),(19,zI (zz.1:Int))]) (λzz=>[]) (λzz=>zz.1<=2^es.length/\(0<=zz.2/\zz.2 <32)/\zz.2=Xk tst ne zz.1) (λzz=>2^es.length-zz.1) (⟨0,(allM ne)⟩) ⟨Nat.zero_le _,hA,rfl⟩ [] ?_;rintro⟨c,b⟩ hI K1 cU rest;dsimp only at hI;refine zD 5<|zJ 20 ((c:Int) <(iU .i64 1 (es.length:Int))) (λh1=>?_) λh1=>?_
 ·
  refine zD 16<|jw 7 (.int .u8 (c:Int)) (aM4 (by omega))<|zD 2<|zxp [.int .u8 (c:Int)] (λhs=>aBo (by omega))<|zD 1<|zxp [.int .u8 b] (λhs=>aBo (by omega))<|zD 10<|js 31 (decide ((rQ (c:Int))>(rQ b))) (λh2=>?_) (λh2=>?_)
  ·
   have nu:=h2;replace nu:=of_decide_eq_true nu;refine zD 22<|zW ((c:Int)+1)<|zD 2<|zF cU (⟨c+1,b⟩) ⟨by dsimp only;omega,by dsimp only;rw[Xk,<-hI.2.2];exact(show AQ tst b (c:Int)=_ by rw[AQ,decide_eq_true (p:=rQ (c:Int)>rQ b) (by omega)];rfl).symm⟩ []
  have nu:=h2;replace nu:=af nu;refine zD 4<|js 35 (decide ((rQ (c:Int))=(rQ b))) (λh3=>?_) (λh3=>?_)
  ·
   have yW:=h3;replace yW:=ah yW;refine zD 1<|jc (vs:=[.int .u8 (c:Int)]) [] (aeu (f:=(c:Int))) ?_;rintro v37 L37 aSE;obtain⟨aDL,aDE,aIe⟩:=aSE.form;subst aIe;refine zD 1<|jc (vs:=[.int .u8 b]) [] (aeu (f:=b)) ?_;rintro v39 L39 aSD;obtain⟨bas,baa,ayb⟩:=aSD.form;subst ayb;refine jp (vs:=[(.slice aDL (nV (c:Int) 5).length aDE),(.slice bas (nV b 5).length baa)]) [1,0] (L37++L39) (λcK hs hZ=>bed (aSE.ju hZ.left) (aSD.ju hZ.right) (by have:=Kw (c:Int) 5;omega) (by have:=Kw b 5;omega)) ?_;refine zD 4<|js 44 (decide ((Bp (nV (c:Int) 5) (nV b 5))>=0)) (λh4=>?_) (λh4=>?_)
   ·
    have K0:=h4;replace K0:=of_decide_eq_true K0;refine zD 9<|zW ((c:Int)+1)<|zD 2<|zF cU (⟨c+1,b⟩) ⟨by dsimp only;omega,by dsimp only;rw[Xk,<-hI.2.2];exact(show AQ tst b (c:Int)=_ by rw[AQ,decide_eq_false (p:=rQ (c:Int)>rQ b) (by omega),decide_eq_true (p:=rQ (c:Int)=rQ b) (by omega),decide_eq_true (p:=Bp (nV (c:Int) 5) (nV b 5)>=0) (by omega)];rfl).symm⟩ []
   have K0:=h4;replace K0:=af K0;refine zD 2<|jcF (vs:=fi++[Value.int .u8 (c:Int)]++ca) [] JF (ht _ _ (Sub.refl _)) ?_;rintro _ _ ⟨rfl,rfl⟩;refine jg 0 []<|zD 3<|js 49 (!(tst (c:Int))) (λh5=>?_) (λh5=>?_)
   ·
    try simp only[zB] at h5
    refine zD 3<|zW ((c:Int)+1)<|zD 2<|zF cU (⟨c+1,b⟩) ⟨by dsimp only;omega,by dsimp only;rw[Xk,<-hI.2.2];exact(show AQ tst b (c:Int)=_ by rw[AQ,decide_eq_false (p:=rQ (c:Int)>rQ b) (by omega),decide_eq_true (p:=rQ (c:Int)=rQ b) (by omega),decide_eq_false (p:=Bp (nV (c:Int) 5) (nV b 5)>=0) (by omega),show tst (c:Int)=false from by assumption];rfl).symm⟩ []
   try simp only[zB] at h5
   refine zD 7<|zW ((c:Int)+1)<|zD 2<|zF cU (⟨c+1,(c:Int)⟩) ⟨by dsimp only;omega,by dsimp only;rw[Xk,<-hI.2.2];exact(show AQ tst b (c:Int)=_ by rw[AQ,decide_eq_false (p:=rQ (c:Int)>rQ b) (by omega),decide_eq_true (p:=rQ (c:Int)=rQ b) (by omega),decide_eq_false (p:=Bp (nV (c:Int) 5) (nV b 5)>=0) (by omega),show tst (c:Int)=true from by assumption];rfl).symm⟩ []
  have yW:=h3;replace yW:=af yW;refine zD 11<|jcF (vs:=fi++[Value.int .u8 (c:Int)]++ca) [] JF (ht _ _ (Sub.refl _)) ?_;rintro _ _ ⟨rfl,rfl⟩;refine jg 0 []<|zD 3<|js 49 (!(tst (c:Int))) (λh6=>?_) (λh6=>?_)
  ·
   try simp only[zB] at h6
   refine zD 3<|zW ((c:Int)+1)<|zD 2<|zF cU (⟨c+1,b⟩) ⟨by dsimp only;omega,by dsimp only;rw[Xk,<-hI.2.2];exact(show AQ tst b (c:Int)=_ by rw[AQ,decide_eq_false (p:=rQ (c:Int)>rQ b) (by omega),decide_eq_false (p:=rQ (c:Int)=rQ b) (by omega),show tst (c:Int)=false from by assumption];rfl).symm⟩ []
  try simp only[zB] at h6
  refine zD 7<|zW ((c:Int)+1)<|zD 2<|zF cU (⟨c+1,(c:Int)⟩) ⟨by dsimp only;omega,by dsimp only;rw[Xk,<-hI.2.2];exact(show AQ tst b (c:Int)=_ by rw[AQ,decide_eq_false (p:=rQ (c:Int)>rQ b) (by omega),decide_eq_false (p:=rQ (c:Int)=rQ b) (by omega),show tst (c:Int)=true from by assumption];rfl).symm⟩ []
 refine zD 5<|jc (vs:=[.int .u8 b]) [] (aeu (f:=b)) ?_;rintro v53 L53 aSB;obtain⟨ban,aZ5,bgB⟩:=aSB.form;subst bgB;refine zD 3<|jrM qm0 ((.slice ban (nV b 5).length aZ5)) [] [] [0] L53 (Sub.refl _) ⟨_,by rw[asJ,<-vK,show 2^es.length=c by omega,vK,<-hI.2.2];exact aSB,rfl⟩
def amK(K:eX)(c:Int):Bool:= !(mj K (vk .u8 (allM K.bB.length) c)).isEmpty
theorem Bv.emp{K:eX}{W:kg}{ls:List cz}{ps:List eI}(h:Bv ro Hb K W u ls ps)(need:Int):(iC W.D ls (sx K) K.aS.length ps.length need).isEmpty=(mj K need).isEmpty:=(h.OQ need).isEmpty_eq
def awZ{K:eX}{W:kg}{ls:List cz}{ps:List eI}{c:Int}(hI:Bv ro Hb K W u ls ps)(g1:ro b1=some (.cells ⟨[zP Hb]⟩ 103 (0,0))):eT zT 79 [.int .u8 c,zP b1] ro [] (λr Y=>r= .bool (amK K c)/\Y=[]):=by
 refine zE<|zD 6<|jl (b:=b1) (off:=0) (m:=1) (vs:=[zP Hb]) 0 ⟨_,_,_,.inl g1,rfl⟩<|jl (b:=b1) (off:=0) (m:=1) (vs:=[zP Hb]) 0 ⟨_,_,_,.inl g1,rfl⟩<|zD 1<|zxp [zP Hb] (λhs=>ahp (hI.r.up hs))<|zD 1<|zxo 5 λuk=>jc (vs:=[zP Hb,.int .u8 (vk .u8 (allM K.bB.length) c)]) [] (aBk (need:=(vk .u8 (allM K.bB.length) c)) hI.r) ?_;rintro _ _ ⟨rfl,rfl⟩;rw[hI.emp (vk .u8 (allM K.bB.length) c)];refine jg 0 []<|eH uk []<|zD 3<|zX _ ⟨rfl,rfl⟩
def awY{K:eX}(hK:nj ro l K)(hV:wj K):Sm zT 22 [.agg ⟨l⟩] ro [] (λr Y=>∃v,r= .tuple ⟨[v,zI 0]⟩/\bI v 1 3 eC (asJ (amK K) K.bB.length) Y):=by
 have cU:=hK;obtain⟨vS,vT,vP,vR,vE,fa,fc,rfl,hS,hT,hp,hr,he⟩:=hK;have C3:=hp;have Ys:=he;have zi:=hr;obtain⟨gX,xY,xX,gF,rfl,A2,xk,xj⟩:=hp;obtain⟨gY,yK,yJ,gP,rfl,GQ,xo,xm⟩:=he;have hpp:=hV.VM;have Sc:=hV.days;have yV:=hV.bB;refine Qa bD [] [] de λfr=>zD 2<|jn λb1=>jd 6 [0]<|Qb (vs:=[.agg ⟨[vS,vT,.slice fa 0 fc,.slice gX K.aS.length gF,vR,zI K.days,zI K.stay,.slice gY K.bB.length gP]⟩]) [] (λ_ _ h=>h) (V8 cU hV) ?_;rintro _ cK _ fq ⟨Hb,W,u,ls,ps,rfl,xw,rfl⟩;have HL:=xw.OQ (allM K.bB.length);have MQ:=HL.length_eq;refine jg 0 []<|zD 3<|jn λb4=>jd 2 [0]<|jf [0] [(b4,.cells ⟨[zP Hb]⟩ 103 (0,0))] λro4 rF Uf=>zD 11<|jl (b:=b4) (off:=0) (m:=1) (vs:=[zP Hb]) 0 ⟨_,_,_,.inl (Uf _ (.head _)),rfl⟩<|zD 1<|jc (vs:=[zP Hb,.func (.func 79) ⟨[]⟩ ⟨[zP b4]⟩]) [] (aw7 (f:=79) (fi:=[]) (ca:=[zP b4]) (tst:=(amK K)) (xw.r.up rF) (by kernel_rfl) (λbU c hs=>awZ (xw.up (rF.trans hs)) (hs _ _ (Uf _ (.head _))))) ?_;rintro v77 L77 ⟨_,aSy,rfl⟩;obtain⟨bak,aZ3,bgy⟩:=aSy.form;subst bgy;refine zD 4<|jrC qC.a.a (.tuple ⟨[(.slice bak (asJ (amK K) K.bB.length).length aZ3),zI 0]⟩) [0,2] L77 (fq.trans rF) ⟨_,rfl,aSy⟩
def jcO{X:Cx}{o:Option JS}{v:Value}{enc:α->List Value}{ps:List α}{lo:Int}(hs:dk X.ro v sz enc ps)(hl:0<=lo/\lo<=ps.length)(hj:∀v',dk X.ro v' sz enc (ps.drop lo.toNat)->J X (lX v' o))(hv:fp X.n (adx X.P X.n) o=some (v,some lo,none,sz):=by kernel_rfl):J X o:=by
 obtain⟨a,b,off,cap,rfl,h2,h3,h4⟩:=id hs;have hp:=dk.part hs (l:=lo.toNat) (h:=ps.length) (by omega) (bk _);rw[List.take_length] at hp;refine SK hv (λs p e _ hf=>?_) (hj _ hp);obtain⟨T,x,y,z,E,s1,dP,zz,ag,d,Db,z2,ag2,aX,tf,tT,hx,hy,hz⟩:=H3 hf;obtain⟨y,k,rfl,ML⟩:=lN hy;have hz:=A5 hz;subst hz;rcases p with ⟨dst,op,ty,pos,gf,g⟩
 dsimp only at aX;subst aX;intro s0 ops i vJ rest hw s' pg todo Q hk;refine eF X.hC vJ hw (by simp) ?_;have hb:(0:Int)<=(ps.length:Int)/\(ps.length:Int)<=(cap:Int):=by omega
 have kV:0<=lo/\lo<=(ps.length:Int):=hl;rw[<-dH] at hk;simp only[execOp,dD,lQ,Instr.sliceAt,Instr.slice,cg (cO (rest:=rest) hx),cg (cO (rest:=rest) ML),aI,db tf,Instr.sliceBounds,Instr.sliceBound,asIntOf,aQ,hb,kV,Tb,dF,eE tT];exact hk
def qK(x y:au):Bool:=decide (x.n <y.n)||(decide (x.n=y.n)&&decide (x.l <y.l))
theorem Jk{x y:au}:qK x y=true↔mL x y:=by simp[qK,mL]
theorem af3{x y:au}(h:qK x y=false)(eA:x≠y):mL y x:=by
 rcases x with ⟨a,b⟩;rcases y with ⟨c,d⟩
 grind [qK,mL]
def FA{l:List au}{k:Nat}{x:au}(h:l.Pairwise mL)(h1:∀y∈l.take k,mL y x)(h2:k=l.length\/∃y,l[k]?=some y/\mL x y):(l.take k++[x]++l.drop k).Pairwise mL:=by
 have hb:∀y∈l.drop k,mL x y:=λy hy=>by
  rcases h2 with rfl| ⟨z,hz,hx⟩
  .simp at hy
  rw[lB hz] at hy;rcases aN.1 hy with rfl|hy
  .exact hx
  have:=(oS.1 (show (z::l.drop (k+1)).Pairwise mL by rw[<-lB hz];exact h.sublist (List.drop_sublist _ _))).1 y hy;simp only[mL] at*;omega
 rw[bx];refine List.pairwise_append.2 ⟨h.sublist (List.take_sublist _ _),oS.2 ⟨hb,h.sublist (List.drop_sublist _ _)⟩,λa ha b mB=>?_⟩;rcases aN.1 mB with rfl|mB
 .exact h1 a ha
 have:=h1 a ha;have:=hb b mB;simp only[mL] at*;omega
theorem aor{x y:au}(h:(!(x.n==y.n&&(x.l==y.l&&true)))=true):x≠y:=by grind
theorem Fb{p:α->Prop}{l:List α}{k:Nat}{x:α}(h:∀y∈l,p y)(hx:p x):∀y∈l.take k++[x]++l.drop k,p y:=by grind
theorem bI.cap{a:Option Addr}{c:Nat}{T:TypeId}{enc:α->List Value}{ps:List α}{L:Cells}(h:bI (.slice a n c) sz T enc ps L):n=ps.length/\n<=c:=by
 rcases h with ⟨h,rfl,_⟩| ⟨b,l,cap,h,_,_,h4,_⟩
 all_goals grind
abbrev HdR(w:Value)(l:List aT):Prop:=∃a c,w= .slice a l.length c/\l.length<=c
def Ay(x:au):Prop:=(1<=x.n/\x.n<=9)/\0<=x.l/\x.l<=2
def Wc{x y:au}:iI zT 219 [.agg ⟨[zI x.n,zI x.l]⟩,.agg ⟨[zI y.n,zI y.l]⟩] ro (.bool (qK x y)):=by
 refine zE<|zD 2<|jn λb2=>jn λb3=>jd 10 [1,0]<|js 10 (decide (x.n <y.n)) (λh1=>?_) (λh1=>?_)
 ·
  have lF:=h1;replace lF:=ah lF;refine zD 16<|zX (.bool true) ⟨by simp_all[qK],rfl⟩
 have lF:=h1;replace lF:=af lF;refine jd 6 [1,0]<|js 16 (decide (x.n=y.n)) (λh2=>?_) (λh2=>?_)
 ·
  have nu:=h2;replace nu:=ah nu;refine jd 10 [1,0]<|zX (.bool (decide (x.l <y.l))) ⟨by simp_all[qK],rfl⟩
 have nu:=h2;replace nu:=af nu;refine zD 10<|zX (.bool false) ⟨by simp_all[qK],rfl⟩
def aRo{n m:Int}(hn:0<=n/\n<=1000)(hm:1<=m/\m<=1000):iI zT 220 [zI n,zI m] ro (zI (Int.tmod n m)):=by
 have hnn:=wQ m hn.1;refine zE<|zD 8<|jrm (k:= .i64) (a:=n) (b:=m) 3 (by omega)<|zD 8<|zJ 9 ((Int.tmod n m) <0) (λh1=>?_) λh1=>?_
 ·
  exfalso;omega
 refine zD 8<|zX _ ⟨rfl,rfl⟩
def Bo{X:Cells}{v:Value}{l:List au}(hN:Dn ro vd xs)(hD:eL vd xs d X)(hl:dk ro v 2 cv l)(Ar:l.length<=100):eT zT 221 [zP d,v] ro X (λr Y=>∃a b,r= .agg ⟨[zI a,zI b]⟩/\eL vd xs d Y):=by
 obtain⟨fO,rh,q9,fb,rfl,sV,mR,nN⟩:=hl;refine zC [.l X]<|zD 2<|jn λb4=>zD 8<|js 8 (decide ((l.length:Int)=0)) (λh1=>?_) (λh1=>?_)
 ·
  have lF:=h1;replace lF:=ah lF;refine zD 8<|jc (vs:=[zP d,zI 1,zI 9]) [1] (zp hN hD (by omega) (by omega)) ?_;rintro _ X13 ⟨w13,rfl,aeH,aaN,WY⟩;refine jd 4 [1]<|zR (.agg ⟨[zI w13,zI 0]⟩) [1] [0] _ ⟨_,_,rfl,WY⟩
 have lF:=h1;replace lF:=af lF;refine zD 1<|jc (vs:=[zP d,zI 12]) [1] (Gv hN hD (by omega)) ?_;rintro _ X10 ⟨JK,rfl,Hn⟩;refine zD 2<|js 11 JK (λh2=>?_) (λh2=>?_)
 ·
  subst h2;refine zD 4<|jc (vs:=[zP d,zI 1,zI 9]) [0] (zp hN Hn (by omega) (by omega)) ?_;rintro _ X13 ⟨w13,rfl,aeH,aaN,WY⟩;refine jd 4 [1]<|zR (.agg ⟨[zI w13,zI 0]⟩) [1] [0] _ ⟨_,_,rfl,WY⟩
 subst h2;refine zD 8<|zW ((l.length:Int)-1)<|jc (vs:=[zP d,zI ((l.length:Int)-1)]) [0] (Oq hN Hn (by omega)) ?_;rintro _ X20 ⟨w20,rfl,aR1,tZ,aky⟩;obtain⟨x21,aRQ⟩:=zG l (w20.toNat);refine Yj w20 fb 2 mR aRQ (by omega)<|jl 0 (nN _ _ aRQ)<|jd 3 [1]<|zR (.agg ⟨[zI x21.n,zI x21.l]⟩) [1] [0] _ ⟨_,_,rfl,aky⟩
def ayV{X:Cells}{oZ:Int}(hN:Dn ro vd xs)(hD:eL vd xs d X)(hm:0<=oZ/\oZ<=3):eT zT 159 [zP d,zI oZ] ro X (λr Y=>∃(ps:List au) (L X':Cells),bI r 2 39 cv ps L/\(ps.length:Int)<=oZ/\ps.Pairwise mL/\(∀x∈ps,Ay x)/\Y=L++X'/\eL vd xs d X'):=by
 refine zC [.l X]<|zD 13<|jc (vs:=[zP d,zI oZ]) [0] (Oq hN hD (by omega)) ?_;rintro _ X11 ⟨w11,rfl,bq5,aaO,asb⟩;refine zD 3<|uI<|iz [1,1,0,1,0,0] [] (λ(zz:Int×Value×Cells×(List au)×Cells)=>[(0,zP d),(4,zS),(5,zz.2.1),(6,zI zz.1)]) (λzz=>[.l zz.2.2.1,.l zz.2.2.2.2]) (λzz=>(0<=zz.1/\zz.2.2.2.1.length+zz.1<=oZ)/\bI zz.2.1 2 39 cv zz.2.2.2.1 zz.2.2.1/\zz.2.2.2.1.Pairwise mL/\(∀x∈zz.2.2.2.1,Ay x)/\eL vd xs d zz.2.2.2.2) (λzz=>zz.1.toNat) (⟨w11,zS,[],[],X11⟩) ⟨by simp only[List.length_nil];omega,bI.nil _ _ _,.nil,(λ_ h=>by cases h),asb⟩ [0,1] ?_;rintro⟨j,v,L,ps,X⟩ hI K1 cU rest;dsimp only at hI;refine zD 6<|zJ 13 (j>0) (λh1=>?_) λh1=>?_
 ·
  refine zD 7<|jc (vs:=[zP d,zI 1,zI 9]) [1] (zp hN hI.2.2.2.2 (by omega) (by omega)) ?_;rintro _ X17 ⟨w17,rfl,aR2,yh,aJn⟩;refine zD 1<|jn λb7=>jd 6 [0]<|jc (vs:=[zP d,zI 4]) [1] (Gv hN aJn (by omega)) ?_;rintro _ X20 ⟨w20,rfl,aky⟩;refine zD 1<|Yk [1,1,0,1,0,0,1,0,0,1,1] [K1] (λ(zz:Int×Int×Cells)=>[(0,zP d),(4,zS),(5,v),(6,zI j),(7,zP b7)]) (λzz=>[zxc b7 39 [zI zz.1,zI zz.2.1],.l L,.l zz.2.2]) (λzz=>Ay ⟨zz.1,zz.2.1⟩/\eL vd xs d zz.2.2) ?_ (λK2 kU=>?_)
  ·
   rintro⟨n,q,X⟩ hQ rest;dsimp only at hQ;refine zD 6<|iz [1,1,0,1,0,0,1,0,0,1,1,1,0,0,0] [K1] (λ(zz:Nat)=>[(0,zP d),(4,zS),(5,v),(6,zI j),(7,zP b7),(8,zI (zz:Int))]) (λzz=>[zxc b7 39 [zI n,zI q],.l L,.l X]) (λzz=>zz<=ps.length/\(∀y∈ps.take zz,mL y ⟨n,q⟩)) (λzz=>ps.length-zz) 0 ⟨Nat.zero_le _,λ_ h=>by simp at h⟩ [0,1,2] ?_;rintro k hR K3 Dq rest;refine zD 5<|jol hI.2.1<|zD 2<|js 4 (decide ((k:Int) <(ps.length:Int))) (λh2=>?_) (λh2=>?_)
   ·
    have nu:=h2;replace nu:=ah nu;refine zD 2 ?_;obtain⟨RU,Qe⟩:=zG ps k;refine jxo 2 hI.2.1 Qe λb31 bhf=>yL 0 [1] L (λs _ hZ=>kN hI.2.1 bhf hZ Qe)<|jd 1 [0]<|zxp [.agg ⟨[zI RU.n,zI RU.l]⟩,.agg ⟨[zI n,zI q]⟩] (λhs=>(Wc (x:=RU) (y:=⟨n,q⟩)))<|zD 2<|js 35 (qK RU ⟨n,q⟩) (λh3=>?_) (λh3=>?_)
    ·
     refine zD 5<|zW ((k:Int)+1)<|zD 2<|zY Dq (k+1) ⟨by omega,Jl hR.2 Qe (Jk.1 (by simp_all))⟩ [0,1,2]
    refine zD 6<|jol hI.2.1<|zD 2<|js 4 (decide ((k:Int)=(ps.length:Int))) (λh4=>?_) (λh4=>?_)
    ·
     have K0:=h4;replace K0:=ah K0;exfalso;omega
    have K0:=h4;replace K0:=af K0;refine zD 2 ?_;obtain⟨xR,sN⟩:=zG ps k;refine jxo 2 hI.2.1 sN λb45 ae8=>yL 0 [1] L (λs _ hZ=>kN hI.2.1 ae8 hZ sN)<|jd 1 [0]<|jne GY (yz xR.n xR.l n q)<|zD 2<|js 49 (!(xR.n==n&&(xR.l==q&&true))) (λh5=>?_) (λh5=>?_)
    ·
     try simp only[zB] at h5
     refine zD 1<|jf [1] L (λro8 SN hk7=>?_);have hzp:=hI.2.1.ju hk7;obtain⟨yR,GP,GN,wB,rfl,GO,CY,CX⟩:=hzp;refine zD 3<|jcH (hi:=(k:Int)) (show dk _ _ _ _ _ from ⟨yR,GP,GN,wB,rfl,GO,CY,CX⟩) (by omega) (λv53 aG7=>?_);obtain⟨AZ,Ps,Po,AY,rfl,aOY,Pq,Pp⟩:=aG7;refine jd 3 [0]<|jcO (lo:=(k:Int)) (show dk _ _ _ _ _ from ⟨yR,GP,GN,wB,rfl,GO,CY,CX⟩) (by omega) (λv60 aG5=>?_);obtain⟨AV,Pg,Pd,AU,rfl,aOW,Pf,Pe⟩:=aG5;refine vg [0,6] ⟨λ_ _ KX=>?_,λ_ _ hL9=>?_,trivial⟩
     ·
      refine jn λb50=>eH KX [1,2]<|vg [4,6] ⟨λ_ _ WW=>?_,λ_ _ WV=>?_,trivial⟩
      ·
       refine zxq cv b50 39 0 AY Pq Pp λOJ OH yF fU=>ee WW [[1]]<|zxo 6 λHl=>jn λb56=>eH Hl [1,2,3]<|zxo 7 λHk=>zxl cv b56 (⟨n,q⟩:au) 1 0 (fU) λYQ YN L57 qn=>ee Hk []<|zxo 11 λWU=>zxk cv 0 AU (qn) Pf Pe λDv Du L61 lZ=>ee WU []<|zD 4<|zW (j-1)<|zD 2<|dX cU (⟨(j-1),(.slice Dv (((((ps).take (k:Int).toNat)++[(⟨n,q⟩:au)])++((ps).drop (k:Int).toNat))).length Du),L61,((((ps).take (k:Int).toNat)++[(⟨n,q⟩:au)])++((ps).drop (k:Int).toNat)),X⟩) ⟨by dsimp only;simp only[List.length_append,List.length_take,List.length_drop,List.length_cons,List.length_nil];omega,by simpa only[Int.toNat_natCast,List.nil_append] using lZ,FA hI.2.2.1 hR.2 (.inr ⟨_,sN,af3 (by simp_all) (aor (by simp_all))⟩),Fb hI.2.2.2.1 hQ.1,hQ.2⟩ (by dsimp only;omega) [0,3] SN
      refine jn λb56=>eH WV [1,2,3]<|zxo 4 λKY=>zxq cv b50 39 1 AY Pq Pp λOJ OH yF fU=>ee KY []<|zxo 7 λQG=>zxl cv b56 (⟨n,q⟩:au) 0 1 (fU) λYQ YN L57 qn=>ee QG []<|zxo 11 λarz=>zxk cv 0 AU (qn) Pf Pe λDv Du L61 lZ=>ee arz []<|zD 4<|zW (j-1)<|zD 2<|dX cU (⟨(j-1),(.slice Dv (((((ps).take (k:Int).toNat)++[(⟨n,q⟩:au)])++((ps).drop (k:Int).toNat))).length Du),L61,((((ps).take (k:Int).toNat)++[(⟨n,q⟩:au)])++((ps).drop (k:Int).toNat)),X⟩) ⟨by dsimp only;simp only[List.length_append,List.length_take,List.length_drop,List.length_cons,List.length_nil];omega,by simpa only[Int.toNat_natCast,List.nil_append] using lZ,FA hI.2.2.1 hR.2 (.inr ⟨_,sN,af3 (by simp_all) (aor (by simp_all))⟩),Fb hI.2.2.2.1 hQ.1,hQ.2⟩ (by dsimp only;omega) [0,3] SN
     refine jn λb56=>eH hL9 [1,2]<|zxo 0 λQF=>jn λb50=>eH QF [1,2,3]<|zxo 4 λWT=>zxq cv b50 39 0 AY Pq Pp λOJ OH yF fU=>ee WT []<|zxo 7 λary=>zxl cv b56 (⟨n,q⟩:au) 0 1 (fU) λYQ YN L57 qn=>ee ary []<|zxo 11 λWS=>zxk cv 0 AU (qn) Pf Pe λDv Du L61 lZ=>ee WS []<|zD 4<|zW (j-1)<|zD 2<|dX cU (⟨(j-1),(.slice Dv (((((ps).take (k:Int).toNat)++[(⟨n,q⟩:au)])++((ps).drop (k:Int).toNat))).length Du),L61,((((ps).take (k:Int).toNat)++[(⟨n,q⟩:au)])++((ps).drop (k:Int).toNat)),X⟩) ⟨by dsimp only;simp only[List.length_append,List.length_take,List.length_drop,List.length_cons,List.length_nil];omega,by simpa only[Int.toNat_natCast,List.nil_append] using lZ,FA hI.2.2.1 hR.2 (.inr ⟨_,sN,af3 (by simp_all) (aor (by simp_all))⟩),Fb hI.2.2.2.1 hQ.1,hQ.2⟩ (by dsimp only;omega) [0,3] SN
    try simp only[zB] at h5
    refine zD 4<|zW (j-1)<|zD 2<|zF cU (⟨(j-1),v,L,ps,X⟩) ⟨hI.2.1,hI.2.2.1,hI.2.2.2.1,hQ.2⟩ [1,2]
   have nu:=h2;replace nu:=af nu;refine zD 14<|jol hI.2.1<|zD 2<|js 4 (decide ((k:Int)=(ps.length:Int))) (λWZ=>?_) (λWZ=>?_)
   ·
    have QK:=WZ;replace QK:=ah QK;refine zD 9<|jf [1] L (λbo1 aG9 bf3=>?_);have hzp:=hI.2.1.ju bf3;obtain⟨yR,GP,GN,wB,rfl,GO,CY,CX⟩:=hzp;refine zD 3<|jcH (hi:=(k:Int)) (show dk _ _ _ _ _ from ⟨yR,GP,GN,wB,rfl,GO,CY,CX⟩) (by omega) (λv53 aG7=>?_);obtain⟨AZ,Ps,Po,AY,rfl,aOY,Pq,Pp⟩:=aG7;refine jd 3 [0]<|jcO (lo:=(k:Int)) (show dk _ _ _ _ _ from ⟨yR,GP,GN,wB,rfl,GO,CY,CX⟩) (by omega) (λv60 aG5=>?_);obtain⟨AV,Pg,Pd,AU,rfl,aOW,Pf,Pe⟩:=aG5;refine vg [0,6] ⟨λ_ _ WR=>?_,λ_ _ WO=>?_,trivial⟩
    ·
     refine jn λb50=>eH WR [1,2]<|vg [4,6] ⟨λ_ _ afh=>?_,λ_ _ aff=>?_,trivial⟩
     ·
      refine zxq cv b50 39 0 AY Pq Pp λOJ OH yF fU=>ee afh [[1]]<|zxo 6 λQE=>jn λb56=>eH QE [1,2,3]<|zxo 7 λafe=>zxl cv b56 (⟨n,q⟩:au) 1 0 (fU) λYQ YN L57 qn=>ee afe []<|zxo 11 λafd=>zxk cv 0 AU (qn) Pf Pe λDv Du L61 lZ=>ee afd []<|zD 4<|zW (j-1)<|zD 2<|dX cU (⟨(j-1),(.slice Dv (((((ps).take (k:Int).toNat)++[(⟨n,q⟩:au)])++((ps).drop (k:Int).toNat))).length Du),L61,((((ps).take (k:Int).toNat)++[(⟨n,q⟩:au)])++((ps).drop (k:Int).toNat)),X⟩) ⟨by dsimp only;simp only[List.length_append,List.length_take,List.length_drop,List.length_cons,List.length_nil];omega,by simpa only[Int.toNat_natCast,List.nil_append] using lZ,FA hI.2.2.1 hR.2 (.inl (by omega)),Fb hI.2.2.2.1 hQ.1,hQ.2⟩ (by dsimp only;omega) [0,3] aG9
     refine jn λb56=>eH aff [1,2,3]<|zxo 4 λQC=>zxq cv b50 39 1 AY Pq Pp λOJ OH yF fU=>ee QC []<|zxo 7 λarw=>zxl cv b56 (⟨n,q⟩:au) 0 1 (fU) λYQ YN L57 qn=>ee arw []<|zxo 11 λarv=>zxk cv 0 AU (qn) Pf Pe λDv Du L61 lZ=>ee arv []<|zD 4<|zW (j-1)<|zD 2<|dX cU (⟨(j-1),(.slice Dv (((((ps).take (k:Int).toNat)++[(⟨n,q⟩:au)])++((ps).drop (k:Int).toNat))).length Du),L61,((((ps).take (k:Int).toNat)++[(⟨n,q⟩:au)])++((ps).drop (k:Int).toNat)),X⟩) ⟨by dsimp only;simp only[List.length_append,List.length_take,List.length_drop,List.length_cons,List.length_nil];omega,by simpa only[Int.toNat_natCast,List.nil_append] using lZ,FA hI.2.2.1 hR.2 (.inl (by omega)),Fb hI.2.2.2.1 hQ.1,hQ.2⟩ (by dsimp only;omega) [0,3] aG9
    refine jn λb56=>eH WO [1,2]<|zxo 0 λWL=>jn λb50=>eH WL [1,2,3]<|zxo 4 λafc=>zxq cv b50 39 0 AY Pq Pp λOJ OH yF fU=>ee afc []<|zxo 7 λafb=>zxl cv b56 (⟨n,q⟩:au) 0 1 (fU) λYQ YN L57 qn=>ee afb []<|zxo 11 λafa=>zxk cv 0 AU (qn) Pf Pe λDv Du L61 lZ=>ee afa []<|zD 4<|zW (j-1)<|zD 2<|dX cU (⟨(j-1),(.slice Dv (((((ps).take (k:Int).toNat)++[(⟨n,q⟩:au)])++((ps).drop (k:Int).toNat))).length Du),L61,((((ps).take (k:Int).toNat)++[(⟨n,q⟩:au)])++((ps).drop (k:Int).toNat)),X⟩) ⟨by dsimp only;simp only[List.length_append,List.length_take,List.length_drop,List.length_cons,List.length_nil];omega,by simpa only[Int.toNat_natCast,List.nil_append] using lZ,FA hI.2.2.1 hR.2 (.inl (by omega)),Fb hI.2.2.2.1 hQ.1,hQ.2⟩ (by dsimp only;omega) [0,3] aG9
   have QK:=WZ;replace QK:=af QK;exfalso;omega
  refine js 20 w20 (λh41=>?_) (λh41=>?_)
  ·
   subst h41;refine zD 3<|jc (vs:=[zP d,zI 1,zI 2]) [0] (zp hN aky (by omega) (by omega)) ?_;rintro _ X22 ⟨w22,rfl,bq3,jL,bia⟩;refine jd 3 [1]<|zY kU ⟨w17,w22,X22⟩ ⟨⟨by dsimp only;omega,by dsimp only;omega⟩,bia⟩ [1,2,0]
  subst h41;refine zD 2<|zY kU ⟨w17,0,X20⟩ ⟨⟨by dsimp only;omega,by dsimp only;omega⟩,aky⟩ [1,2,0]
 refine zD 8<|zR _ [] [0,1] _ ⟨_,_,_,hI.2.1,(by omega),hI.2.2.1,hI.2.2.2.1,rfl,hI.2.2.2.2⟩
end Go.L
