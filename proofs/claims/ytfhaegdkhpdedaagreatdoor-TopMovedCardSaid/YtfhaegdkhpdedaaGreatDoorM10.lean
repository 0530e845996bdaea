/- Part 10 of the proof. -/
import Derived.Test.YtfhaegdkhpdedaaGreatDoorM9
set_option maxRecDepth 100000
set_option maxHeartbeats 4000000
set_option linter.all false
namespace Go.L
open Go Go.Conc Go.Proofs
variable {ro:Nat→Option Obj} {xs ys zs ds:List Int} {F:List (Int×Value)} {u vd:Value} {Hb d ck p b1 j np b2 y ne b3 sz:Nat} {l fi ca:List Value} {α κ:Type} {seen:List Nat} {n x f need D i b h nm:Int} {ps:List ByteArray}
theorem aNt{l:List α}(h:0 <l.length):(!l.isEmpty)=true:=by cases l<;>simp_all
theorem aD7{l:List α}(h:l.length=0):(!l.isEmpty)=false:=by cases l<;>simp_all
def aBl{W:ky}{ls:List cy}{ps:List eH}{mk:Nat->Nat->cy->Int}(fb:C1 ro Hb W u np ne ls ps mk):eW zT 80 [zP Hb,.int .u8 need] ro [] (λr Y=>r= .bool (!(j9 W.D ls mk np ps.length need).isEmpty)/\Y=[]):=by
 refine aed bE [] [] c9<|zD 2<|jn λb4=>zD 6<|jc (vs:=[zP Hb,.int .u8 need]) [] (V8 (Hb:=Hb) (need:=need)) ?_;rintro _ _ ⟨q2,q3,rfl,rfl⟩;refine jg 0 [zxc q2 103 [zP Hb],zxc q3 137 [.int .u8 need]]<|jf [0,1] ((q2,.cells ⟨[zP Hb]⟩ 103 (0,0))::[(q3,.cells ⟨[.int .u8 need]⟩ 137 (0,0))]) λAH fq gV=>zD 2<|jrf [] (ad8 (need:=need) (fb.up fq) (gV _ (.head _)) (gV _ (.tail _ (.head _)))) (by rintro _ _ _ _ ⟨_,_,rfl,_⟩;rfl) (λ(zz:Bool)=>[zxc b4 4 [.bool zz]]) (λkk=>(λ(zz:Bool)=>zz=false/\kk=0)) (λjump=>(λ(zz:Bool)=>jump= .ret/\zz=true/\0 <(j9 W.D ls mk np ps.length need).length)) false ⟨rfl,rfl⟩ [0] ?_ ?_ ?_
 ·
  rintro bl4 bd4 kk4 vs4 LL4 bo ro4 hk4 aeI hI sE;obtain⟨x4,hx4,rfl,rfl⟩:=aeI;refine zD 1<|jbg<|jd 6 [1]<|jys qy0 (Sub.refl _) .ret true ⟨rfl,rfl,by have:=(aB.1 hx4).1;omega⟩ [0,1]
 ·
  rintro bd4 bo Z4 hI hZ4;subst hZ4;refine jd 5 [2]<|jrM qm0.a.m (.bool false) [0] [1] [] [] fq ⟨by rw[aD7 hI.2],rfl⟩
 rintro bd4 bo Z4 jump hS hZ4;obtain⟨rfl,hS⟩:=hS;subst hZ4;exact jrM qm0.a.m (.bool bo) [0] [1] [] [] fq ⟨by rw[hS.1,aNt hS.2],rfl⟩
def GL{f:FuncId}{B:Cells}{Jn:Nat->Cells->Prop}{W:ky}{ls:List cy}{ps:List eH}{mk:Nat->Nat->cy->Int}(fb:C1 ro Hb W u np ne ls ps mk)(Jm:Hu zT f=true)(hB:Jn 0 B)(beS:∀k x,(j9 W.D ls mk np ps.length (allM ne))[k]?=some x->∀bU,Sub ro bU->∀B,Jn k B->eW zT f (fi++[.agg ⟨NM x⟩]++ca) bU B (λ_ Y=>Jn (k+1) Y)) (hN:(j9 W.D ls mk np ps.length (allM ne)).length<=1000000):eW zT 56 [zP Hb,.agg ⟨[(.func (.func f) ⟨fi⟩ ⟨ca⟩)]⟩] ro B (λr Y=>r= zI ((j9 W.D ls mk np ps.length (allM ne)).length:Int)/\Jn (j9 W.D ls mk np ps.length (allM ne)).length Y):=by
 refine aed bE [.l B] [] c9<|zD 2<|jn λb3=>zD 4<|jn λb5=>jd 7 [0]<|zxp [zP Hb] (λhs=>ahi (fb.up hs))<|jc (vs:=[zP Hb,.int .u8 (allM ne)]) [] (V8 (Hb:=Hb) (need:=(allM ne))) ?_;rintro _ _ ⟨q2,q3,rfl,rfl⟩;refine jg 0 [zxc q2 103 [zP Hb],zxc q3 137 [.int .u8 (allM ne)]]<|jf [0,1] ((q2,.cells ⟨[zP Hb]⟩ 103 (0,0))::[(q3,.cells ⟨[.int .u8 (allM ne)]⟩ 137 (0,0))]) λAH fq gV=>zD 2<|jrf [] (ad8 (need:=allM ne) (fb.up fq) (gV _ (.head _)) (gV _ (.tail _ (.head _)))) (by rintro _ _ _ _ ⟨_,_,rfl,_⟩;rfl) (λ(zz:Int×Cells)=>[zxc b5 3 [zI zz.1],zxc b3 126 [(.func (.func f) ⟨fi⟩ ⟨ca⟩)],.l zz.2]) (λkk=>(λ(zz:Int×Cells)=>zz.1=(kk:Int)/\Jn kk zz.2)) (λjump=>(λ(zz:Int×Cells)=>False)) (⟨0,B⟩) ⟨rfl,hB⟩ [0,1,2] ?_ ?_ ?_
 ·
  rintro bl4 bd4 kk4 vs4 LL4 ⟨n,B⟩ ro4 hk4 aeI hI sE;obtain⟨x4,hx4,rfl,rfl⟩:=aeI;dsimp only at hI;have hkk:=(List.getElem?_eq_some_iff.1 hx4).1;refine zD 1<|jn λb6=>jd 2 [0]<|aGt<|jd 4 [2]<|zW (n+1)<|jd 13 [2,3,3,0]<|jcF (vs:=fi++[Value.agg ⟨NM x4⟩]++ca) [4] Jm (beS _ _ hx4 _ (fq.trans sE) _ hI.2) ?_;rintro vv Y20 bh8;refine zD 1<|jyn qy0 (Sub.refl _) ⟨(n+1),Y20⟩ ⟨by dsimp only;omega,bh8⟩ [2,3,4,0]
 ·
  rintro bd4 ⟨n,B⟩ Z4 hI hZ4;dsimp only at hI;subst hZ4;refine jd 6 [2]<|jrM qm0.a.m (zI n) [0] [] [3] B fq ⟨by rw[hI.1],hI.2⟩
 rintro bd4 ⟨n,B⟩ Z4 jump hS hZ4;exact hS.elim
def HK{t:cv}{k:Nat}(hk:k <3)(hd:d <4):nth (NM t) (1+(k:Int).toNat*4+(d:Int).toNat*1)=some (zI ((t.at k).at d)):=by
 have h4:d=0\/d=1\/d=2\/d=3:=by omega
 rcases lt3 hk with rfl|rfl|rfl<;>rcases h4 with rfl|rfl|rfl|rfl<;>rfl
def apv{a:Int}{c:Bool}(ha:0<=a/\a<=n)(hn:n<=1000000):eW zT 63 [zP y,.bool c] ro [(y,.cells ⟨[zI a,zI n]⟩ 130 (0,0))] (λr Y=>r= .tuple ⟨[]⟩/\Y=[(y,.cells ⟨[zI (a+bif c then 1 else 0),zI (n+1)]⟩ 130 (0,0))]):=by
 refine zC [zxc y 130 [zI a,zI n]]<|jd 6 [0]<|zW (n+1)<|jd 8 [0]<|js 11 c (λh1=>?_) (λh1=>?_)
 ·
  subst h1;refine jd 6 [0]<|zW (a+1)<|jd 4 [0]<|zR (.tuple ⟨[]⟩) [] [0] [(y,.cells ⟨[zI (a+1),zI (n+1)]⟩ 130 (0,0))] ⟨rfl,by first|rfl|simp⟩
 subst h1;refine zD 2<|zR (.tuple ⟨[]⟩) [] [0] [(y,.cells ⟨[zI a,zI (n+1)]⟩ 130 (0,0))] ⟨rfl,by first|rfl|simp⟩
def acP(a n:Int):Value:=bif decide (n=0) then .tuple ⟨[zI 0,zI 9]⟩ else bif decide (a=n) then .tuple ⟨[zI 1,zI 0]⟩ else bif decide (a=0) then .tuple ⟨[zI 2,zI 0]⟩ else .tuple ⟨[zI 3,zI 0]⟩
def aQI{a:Int}(g:ro y=some (.cells ⟨[zI a,zI n]⟩ 130 (0,0))):iz zT 65 [zP y] ro ((acP a n)):=by
 refine zE<|zD 12<|jl (b:=y) (off:=0) (m:=2) (vs:=[zI a,zI n]) 1 ⟨_,_,_,.inl g,rfl⟩<|zD 3<|zJ 4 (n=0) (λh1=>?_) λh1=>?_
 ·
  refine zD 7<|zX (.tuple ⟨[zI 0,zI 9]⟩) ⟨by rw[acP,cb h1];rfl,rfl⟩
 refine zD 6<|jl (b:=y) (off:=0) (m:=2) (vs:=[zI a,zI n]) 0 ⟨_,_,_,.inl g,rfl⟩<|zD 3<|jl (b:=y) (off:=0) (m:=2) (vs:=[zI a,zI n]) 1 ⟨_,_,_,.inl g,rfl⟩<|zD 3<|zJ 10 (a=n) (λh2=>?_) λh2=>?_
 ·
  refine zD 7<|zX (.tuple ⟨[zI 1,zI 0]⟩) ⟨by rw[acP,cG h1,fJ,cb h2];rfl,rfl⟩
 refine zD 6<|jl (b:=y) (off:=0) (m:=2) (vs:=[zI a,zI n]) 0 ⟨_,_,_,.inl g,rfl⟩<|zD 3<|zJ 20 (a=0) (λh3=>?_) λh3=>?_
 ·
  refine zD 7<|zX (.tuple ⟨[zI 2,zI 0]⟩) ⟨by rw[acP,cG h1,fJ,cG h2,fJ,cb h3];rfl,rfl⟩
 refine zD 8<|zX (.tuple ⟨[zI 3,zI 0]⟩) ⟨by rw[acP,cG h1,fJ,cG h2,fJ,cG h3];rfl,rfl⟩
def SC{lo hi:Int}:iz zT 108 [zI n,zI lo,zI hi] ro (.bool (pF n lo hi)):=by
 refine zE<|zD 10<|jj 4 [(6,.bool false),(14,.bool ((decide (lo<=n))&&(decide (n<=hi))))] (λni=>?_) (λhj=>?_);rotate_left;refine js 10 (decide (lo<=n)) (λh1=>?_) (λh1=>?_)
 ·
  have mA:=h1;replace mA:=ai mA;refine zD 4<|zxw 14 hj (zya h1)
 ·
  have mA:=h1;replace mA:=ah mA;refine zD 4<|zxw 14 hj (zyb h1)
 refine zD 3<|zX _ ⟨rfl,rfl⟩
def aGq{v:Value}{w:ByteArray}(hp:dq ro v 1 nU ps)(hn:ps.length<=1000):iz zT 183 [v,.string w] ro (zI (bM (jo w) ps 0)):=by
 obtain⟨iD,zr,zo,g9,rfl,CE,zq,zp⟩:=hp;refine zE<|zD 12<|iE [1,0,1,0,0] [] (λ(zz:Nat)=>[(0,.slice iD ps.length g9),(1,.string w),(7,zI (ps.length:Int)),(8,zI (zz:Int))]) (λzz=>[]) (λzz=>zz<=ps.length/\bM (jo w) ps 0=bM (jo w) (ps.drop zz) zz) (λzz=>ps.length-zz) 0 ⟨by omega,rfl⟩ [] ?_;rintro k hI K1 cX rest;refine zD 5<|zJ 9 ((k:Int) <(ps.length:Int)) (λh1=>?_) λh1=>?_
 ·
  refine zD 14<|zxt ps k g9 1 zq zp λu4 iB=>zD 2<|js 16 (jo w u4) (λh2=>?_) (λh2=>?_)
  ·
   refine zD 7<|zX (zI (k:Int)) ⟨by rw[hI.2,p5 iB,show jo w u4=true from (by assumption)];rfl,rfl⟩
  refine zD 3<|zW ((k:Int)+1)<|zD 2<|zY cX (k+1) ⟨by omega,by rw[hI.2,p5 iB,show jo w u4=false from (by assumption)];rfl⟩ []
 refine zD 7<|zX (zI (-1)) ⟨by rw[hI.2,A9 (by omega)],rfl⟩
def axx{v:Value}{w:ByteArray}(hp:dq ro v 1 nU ps)(hn:ps.length<=1000):iz zT 139 [v,.string w] ro (.bool (decide (bM (jo w) ps 0>=0))):=by
 obtain⟨iD,zr,zo,g9,rfl,CE,zq,zp⟩:=hp;refine zE<|zD 8<|zxp [.slice iD ps.length g9,.string w] (λhs=>aGq ((show dq _ _ _ _ _ from ⟨iD,zr,zo,g9,rfl,CE,zq,zp⟩).up hs) (by first|omega| (simp only[aO,zM];omega))) ?_;refine zD 4<|zX _ ⟨rfl,rfl⟩
def bda{w:ByteArray}(hw:rj w):iz zT 138 [.string w] ro (.tuple ⟨[.string (keyOf w),zI 0]⟩):=by
 refine zE<|zD 9<|zxp [.string w] (λhs=>(adM hw.n hw.s))<|zD 12<|zxp [.string w] (λhs=>(nOf hw))<|zD 4<|zX _ ⟨rfl,rfl⟩
def aw5{v:Value}{S:List (List ax)}(hS:bH ro v S)(hO:cg S):eW zT 107 [.agg ⟨[v]⟩] ro [] (λr Y=>bJ r 3 41 bL (aI S) Y):=by
 obtain⟨ws,ht,dO⟩:=hS;obtain⟨fP,we,vZ,eL,rfl,v9,nE,nD⟩:=ht;have Ah:=dO.len;have mM:=hO.two;refine zE<|zD 2<|jn λb1=>jd 15 [0]<|wN<|iE [1,1,0,1,0,0] [] (λ(zz:Nat×Value×Cells)=>[(2,zS),(3,zz.2.1),(9,.slice fP ws.length eL),(10,zI (ws.length:Int)),(11,zI (zz.1:Int))]) (λzz=>[.l zz.2.2,zxc b1 24 [.slice fP ws.length eL]]) (λzz=>zz.1<=ws.length/\bJ zz.2.1 3 41 bL (C8 S zz.1) zz.2.2) (λzz=>ws.length-zz.1) (⟨0,zS,[]⟩) ⟨by dsimp only;omega,bJ.nil _ _ _⟩ [0,1] ?_;rintro⟨k,vO,LO⟩ hI K1 cX rest;dsimp only at hI;refine zD 5<|zJ 12 ((k:Int) <(ws.length:Int)) (λh1=>?_) λh1=>?_
 ·
  refine zD 7<|zxs ws k eL 1 nE (λu4 iB=>?_);obtain⟨C5,Kq,WT⟩:=dO.get iB;obtain aHB:=hO.len _ (zL Kq);obtain⟨Py,an2,an0,HW,rfl,an1,Zj,Zi⟩:=WT;refine jl 0 (nD _ _ iB)<|zD 10<|iE [1,1,0,1,0,0,1,1,0,0,1,1,0,0] [K1] (λ(zz:Nat×Value×Cells)=>[(2,zS),(3,zz.2.1),(4,zI (k:Int)),(9,.slice fP ws.length eL),(10,zI (ws.length:Int)),(11,zI (k:Int)),(16,.slice Py C5.length HW),(17,zI (C5.length:Int)),(18,zI (zz.1:Int))]) (λzz=>[.l zz.2.2,zxc b1 24 [.slice fP ws.length eL]]) (λzz=>zz.1<=C5.length/\bJ zz.2.1 3 41 bL (C8 S k++(C5.take zz.1).map (eV k)) zz.2.2) (λzz=>C5.length-zz.1) (⟨0,vO,LO⟩) ⟨by dsimp only;omega,by simpa using hI.2⟩ [0,1] ?_;rintro⟨i,vO,LO⟩ hJ K2 mb rest;dsimp only at hJ;refine zD 5<|zJ 19 ((i:Int) <(C5.length:Int)) (λh2=>?_) λh2=>?_
  ·
   refine zD 6<|zxt C5 i HW 2 Zj Zi λsI q6=>jn λb7=>jd 7 [0,0]<|jn λb26=>zxl bL b26 (⟨(k:Int),sI.n,sI.l⟩:ar) 2 0 (hJ.2) (λaDV aDO L27 Qn=>?_) (hb:=by have:=EV hO k;simp only[aM,dj,cw,aK,aT];omega);refine zD 3<|zW ((i:Int)+1)<|zD 2<|zF mb (⟨i+1,(.slice aDV (((C8 S k++(C5.take i).map (eV k))++[(⟨(k:Int),sI.n,sI.l⟩:ar)])).length aDO),L27⟩) (by rw[cU q6,cC,<-bC];exact Qn) [0,3]
  refine zD 3<|zW ((k:Int)+1)<|zD 2<|zF cX (⟨k+1,vO,LO⟩) (by rw[Qf Kq];have:=hJ.2;rwa[bF (by omega)] at this) [0,1]
 refine zD 8<|zR _ [] [0] LO (by have:=hI.2;rwa[show k=S.length by omega] at this)
def gE(D:Int)(x:eT):Int:=bif !pF x.low 0 (D-1)|| !pF x.high 0 (D-1) then 1 else bif decide (x.low>x.high) then 5 else 0
def jk(ns:Nat)(hs:List ar)(D:Int)(x:eT):Int:=
 bif x.late then (bif !pF x.st 0 ((ns:Int)-1) then 3 else bif !pF x.no 1 40|| !pF x.lt 0 4 then 1 else gE D x)
 else bif !decide (bM (qK x.st x.no x.lt) hs 0>=0) then 3 else gE D x
def aw7{W:ky}{ws:List Value}{hs:List ar}{x:eT}(hH0:ro Hb=some (.cells ⟨W.cells u⟩ 113 (0,0)))(ht0:dq ro W.a0 1 ri ws)(hh0:dq ro (.slice W.ha W.H W.iR) 3 bL hs)(hnt:ws.length<=1000)(hnh:hs.length<=1000)(hD:1<=W.D/\W.D<=4)(hx:rj x.name):iz zT 83 [zP Hb,.agg ⟨[.string x.name,zI x.st,zI x.no,zI x.lt,.bool x.late,zI x.low,zI x.high]⟩] ro (zI (jk ws.length hs W.D x)):=by
 obtain⟨fP,we,vZ,eL,wo,v9,nE,nD⟩:=ht0;obtain⟨pW,Zf,Zd,oX,SX,Ze,Su,Ss⟩:=hh0;have hH:ro Hb=some (.cells ⟨[.slice fP ws.length eL,W.a1,W.a2,W.a3,W.a4,zI W.D,zI W.S,W.a7,.slice pW hs.length oX,u,W.Ln]⟩ 113 (0,0)):=by rw[<-wo,<-SX];exact hH0
 refine zE<|zD 2<|jn λb3=>jd 7 [0]<|zxp [.string x.name] (λhs=>(adM hx.n hx.s))<|jd 15 [0]<|js 14 x.late (λh1=>?_) (λh1=>?_)
 ·
  refine jd 13 [0]<|jl (b:=Hb) (off:=0) (m:=11) (vs:=[.slice fP ws.length eL,W.a1,W.a2,W.a3,W.a4,zI W.D,zI W.S,W.a7,.slice pW hs.length oX,u,W.Ln]) 0 ⟨_,_,_,.inl hH,rfl⟩<|zD 1<|zW ((ws.length:Int)-1)<|zxp [zI x.st,zI 0,zI ((ws.length:Int)-1)] (λhs=>SC)<|zD 2<|js 28 (!(pF x.st 0 ((ws.length:Int)-1))) (λh2=>?_) (λh2=>?_)
  ·
   try simp only[zB] at h2
   refine zD 6<|zX (zI 3) ⟨by first| (simp[jk,gE, *];done)| (simp_all[jk,gE];done)| (simp[jk,gE, *];omega)| (rcases h4 with h4|h4<;>simp[jk,gE, *]),rfl⟩
  try simp only[zB] at h2
  refine jd 7 [0]<|jn λb6=>jd 6 [0,0]<|zxp [zI x.no,zI 1,zI 40] (λhs=>SC)<|zD 2<|jj 5 [(0,zP Hb),(3,zP b3),(4,zI 0),(41,.bool ((!(pF x.no 1 40))||(!(pF x.lt 0 4))))] (λni=>?_) (λhj=>?_);rotate_left;refine js 36 (!(pF x.no 1 40)) (λh3=>?_) (λh3=>?_)
  ·
   have wC:=h3
   try simp only[zB] at wC
   refine zD 5<|zxw 41 hj (zyc h3)
  ·
   have wC:=h3
   try simp only[zB] at wC
   refine jd 2 [0]<|zxp [zI x.lt,zI 0,zI 4] (λhs=>SC)<|zD 2<|zxw 41 hj (zyd h3)
  refine zD 1<|js 41 ((!(pF x.no 1 40))||(!(pF x.lt 0 4))) (λh4=>?_) (λh4=>?_)
  ·
   try simp only[zB] at h4
   refine zD 6<|zX (zI 1) ⟨by first| (simp[jk,gE, *];done)| (simp_all[jk,gE];done)| (simp[jk,gE, *];omega)| (rcases h4 with h4|h4<;>simp[jk,gE, *]),rfl⟩
  try simp only[zB] at h4
  refine jd 12 [1]<|jl (b:=Hb) (off:=0) (m:=11) (vs:=[.slice fP ws.length eL,W.a1,W.a2,W.a3,W.a4,zI W.D,zI W.S,W.a7,.slice pW hs.length oX,u,W.Ln]) 5 ⟨_,_,_,.inl hH,rfl⟩<|zW (W.D-1)<|zxp [zI x.low,zI 0,zI (W.D-1)] (λhs=>SC)<|zD 2<|js 10 (!(pF x.low 0 (W.D-1))) (λh5=>?_) (λh5=>?_)
  ·
   have QG:=h5
   try simp only[zB] at QG
   refine zD 19<|zX (zI 1) ⟨by first| (simp[jk,gE, *];done)| (simp_all[jk,gE];done)| (simp[jk,gE, *];omega)| (rcases h4 with h4|h4<;>simp[jk,gE, *]),rfl⟩
  have QG:=h5
  try simp only[zB] at QG
  refine jd 6 [1]<|jl (b:=Hb) (off:=0) (m:=11) (vs:=[.slice fP ws.length eL,W.a1,W.a2,W.a3,W.a4,zI W.D,zI W.S,W.a7,.slice pW hs.length oX,u,W.Ln]) 5 ⟨_,_,_,.inl hH,rfl⟩<|zW (W.D-1)<|zxp [zI x.high,zI 0,zI (W.D-1)] (λhs=>SC)<|zD 4<|js 50 (!(pF x.high 0 (W.D-1))) (λh6=>?_) (λh6=>?_)
  ·
   try simp only[zB] at h6
   refine zD 6<|zX (zI 1) ⟨by first| (simp[jk,gE, *];done)| (simp_all[jk,gE];done)| (simp[jk,gE, *];omega)| (rcases h4 with h4|h4<;>simp[jk,gE, *]),rfl⟩
  try simp only[zB] at h6
  refine jd 10 [1,1]<|zJ 73 (x.low>x.high) (λh7=>?_) λh7=>?_
  ·
   refine zD 6<|zX (zI 5) ⟨by first| (simp[jk,gE, *];done)| (simp_all[jk,gE];done)| (simp[jk,gE, *];omega)| (rcases h4 with h4|h4<;>simp[jk,gE, *]),rfl⟩
  refine zD 7<|zX (zI 0) ⟨by first| (simp[jk,gE, *];done)| (simp_all[jk,gE];done)| (simp[jk,gE, *];omega)| (rcases h4 with h4|h4<;>simp[jk,gE, *]),rfl⟩
 refine zD 6<|jl (b:=Hb) (off:=0) (m:=11) (vs:=[.slice fP ws.length eL,W.a1,W.a2,W.a3,W.a4,zI W.D,zI W.S,W.a7,.slice pW hs.length oX,u,W.Ln]) 8 ⟨_,_,_,.inl hH,rfl⟩<|jd 2 [0]<|zxp [.slice pW hs.length oX,.agg ⟨[zI x.st,zI x.no,zI x.lt]⟩] (λhs=>T9 ((show dq _ _ _ _ _ from ⟨pW,Zf,Zd,oX,rfl,Ze,Su,Ss⟩).up hs) (by first|omega| (simp only[aO,zM];omega))) ?_;refine zD 2<|js 49 (!(decide (bM (qK x.st x.no x.lt) hs 0>=0))) (λh8=>?_) (λh8=>?_)
 ·
  try simp only[zB] at h8
  refine zD 6<|zX (zI 3) ⟨by first| (simp[jk,gE, *];done)| (simp_all[jk,gE];done)| (simp[jk,gE, *];omega)| (rcases h4 with h4|h4<;>simp[jk,gE, *]),rfl⟩
 try simp only[zB] at h8
 refine jd 12 [0]<|jl (b:=Hb) (off:=0) (m:=11) (vs:=[.slice fP ws.length eL,W.a1,W.a2,W.a3,W.a4,zI W.D,zI W.S,W.a7,.slice pW hs.length oX,u,W.Ln]) 5 ⟨_,_,_,.inl hH,rfl⟩<|zW (W.D-1)<|zxp [zI x.low,zI 0,zI (W.D-1)] (λhs=>SC)<|zD 2<|js 10 (!(pF x.low 0 (W.D-1))) (λh9=>?_) (λh9=>?_)
 ·
  have h9g:=h9
  try simp only[zB] at h9g
  refine zD 19<|zX (zI 1) ⟨by first| (simp[jk,gE, *];done)| (simp_all[jk,gE];done)| (simp[jk,gE, *];omega)| (rcases h4 with h4|h4<;>simp[jk,gE, *]),rfl⟩
 have h9g:=h9
 try simp only[zB] at h9g
 refine jd 6 [0]<|jl (b:=Hb) (off:=0) (m:=11) (vs:=[.slice fP ws.length eL,W.a1,W.a2,W.a3,W.a4,zI W.D,zI W.S,W.a7,.slice pW hs.length oX,u,W.Ln]) 5 ⟨_,_,_,.inl hH,rfl⟩<|zW (W.D-1)<|zxp [zI x.high,zI 0,zI (W.D-1)] (λhs=>SC)<|zD 4<|js 50 (!(pF x.high 0 (W.D-1))) (λxF=>?_) (λxF=>?_)
 ·
  try simp only[zB] at xF
  refine zD 6<|zX (zI 1) ⟨by first| (simp[jk,gE, *];done)| (simp_all[jk,gE];done)| (simp[jk,gE, *];omega)| (rcases h4 with h4|h4<;>simp[jk,gE, *]),rfl⟩
 try simp only[zB] at xF
 refine jd 10 [0,0]<|zJ 73 (x.low>x.high) (λwD=>?_) λwD=>?_
 ·
  refine zD 6<|zX (zI 5) ⟨by first| (simp[jk,gE, *];done)| (simp_all[jk,gE];done)| (simp[jk,gE, *];omega)| (rcases h4 with h4|h4<;>simp[jk,gE, *]),rfl⟩
 refine zD 7<|zX (zI 0) ⟨by first| (simp[jk,gE, *];done)| (simp_all[jk,gE];done)| (simp[jk,gE, *];omega)| (rcases h4 with h4|h4<;>simp[jk,gE, *]),rfl⟩
def abC:List ByteArray->List ByteArray->Bool
 |_,[]=>false
 |ks,w::l=>decide (bM (jo (keyOf w)) ks 0>=0)||abC (ks++[keyOf w]) l
def Dw(xs:List ByteArray):Int:=bif decide ((xs.length:Int)=0) then 7 else bif decide ((xs.length:Int)>3) then 6 else bif abC [] xs then 4 else 0
theorem aic{l:List ByteArray}{ks:List ByteArray}{k:Nat}{w:ByteArray}(h:l[k]?=some w):abC ks (l.drop k)=(decide (bM (jo (keyOf w)) ks 0>=0)||abC (ks++[keyOf w]) (l.drop (k+1))):=by rw[lg h];rfl
def aw3{W:ky}{xs:List ByteArray}(hH0:ro Hb=some (.cells ⟨W.cells u⟩ 113 (0,0)))(Hr:dq ro W.a3 1 nU xs)(Kk:xs.length<=1000)(yU:∀w∈xs,rj w):iz zT 106 [zP Hb] ro (zI (Dw xs)):=by
 obtain⟨rI,qxb,qxo,ru,Bm,qxk,Y8,Y6⟩:=Hr;have hH:ro Hb=some (.cells ⟨[W.a0,W.a1,W.a2,.slice rI xs.length ru,W.a4,zI W.D,zI W.S,W.a7,(.slice W.ha W.H W.iR),u,W.Ln]⟩ 113 (0,0)):=by rw[<-Bm];exact hH0
 refine zE<|zD 11<|jl (b:=Hb) (off:=0) (m:=11) (vs:=[W.a0,W.a1,W.a2,.slice rI xs.length ru,W.a4,zI W.D,zI W.S,W.a7,(.slice W.ha W.H W.iR),u,W.Ln]) 3 ⟨_,_,_,.inl hH,rfl⟩<|zD 3<|zJ 14 ((xs.length:Int)=0) (λh1=>?_) λh1=>?_
 ·
  refine zD 6<|zX (zI 7) ⟨by rw[Dw,cb (by omega)];rfl,rfl⟩
 refine zD 9<|jl (b:=Hb) (off:=0) (m:=11) (vs:=[W.a0,W.a1,W.a2,.slice rI xs.length ru,W.a4,zI W.D,zI W.S,W.a7,(.slice W.ha W.H W.iR),u,W.Ln]) 3 ⟨_,_,_,.inl hH,rfl⟩<|zD 3<|zJ 21 ((xs.length:Int)>3) (λh2=>?_) λh2=>?_
 ·
  refine zD 6<|zX (zI 6) ⟨by rw[Dw,cG (by omega),cb (by omega)];rfl,rfl⟩
 refine zD 13<|jl (b:=Hb) (off:=0) (m:=11) (vs:=[W.a0,W.a1,W.a2,.slice rI xs.length ru,W.a4,zI W.D,zI W.S,W.a7,(.slice W.ha W.H W.iR),u,W.Ln]) 3 ⟨_,_,_,.inl hH,rfl⟩<|zD 4<|wN<|iE [1,1,1,1,0,1,0,0] [] (λ(zz:Nat×Value×Cells×(List ByteArray))=>[(3,zz.2.1),(26,.slice rI xs.length ru),(27,zI (xs.length:Int)),(28,zI (zz.1:Int))]) (λzz=>[.l zz.2.2.1]) (λzz=>(zz.1<=xs.length/\zz.2.2.2.length=zz.1)/\bJ zz.2.1 1 9 nU zz.2.2.2 zz.2.2.1/\Dw xs=bif abC zz.2.2.2 (xs.drop zz.1) then 4 else 0) (λzz=>xs.length-zz.1) (⟨0,zS,[],[]⟩) ⟨⟨Nat.zero_le _,rfl⟩,bJ.nil _ _ _,by dsimp only;rw[Dw,decide_eq_false (by omega),decide_eq_false (by omega)];rfl⟩ [0] ?_;rintro⟨k,v,L,ks⟩ hI K1 cX rest;dsimp only at hI;refine zD 5<|zJ 29 ((k:Int) <(xs.length:Int)) (λh3=>?_) λh3=>?_
 ·
  refine zD 6<|zxt xs k ru 1 Y8 Y6 λFp s7=>zD 5<|zxp [.string Fp] (λhs=>(bda (yU _ (zL s7))))<|zD 19<|jp (vs:=[v,.string (keyOf Fp)]) [0] L (λcK hs hZ=>axx (hI.2.1.jI hZ) (by first|omega| (simp only[aO,zM];omega))) ?_;refine zD 1<|js 42 (decide (bM (jo (keyOf Fp)) ks 0>=0)) (λh4=>?_) (λh4=>?_)
  ·
   refine zD 6<|zX (zI 4) ⟨by rw[hI.2.2,aic s7];simp[*],rfl⟩
  refine zD 5<|jn λb45=>zxl nU b45 (keyOf Fp) 1 0 (hI.2.1) λaZ8 aZS L46 aqk=>zD 3<|zW ((k:Int)+1)<|zD 2<|zY cX (⟨k+1,(.slice aZ8 ((ks++[(keyOf Fp)])).length aZS),L46,(ks++[(keyOf Fp)])⟩) ⟨⟨by dsimp only;omega,by simp only[zM];omega⟩,aqk,by dsimp only;rw[hI.2.2,aic s7];simp[*]⟩ [0]
 refine zD 7<|zX (zI 0) ⟨by rw[hI.2.2,LG (by omega)];rfl,rfl⟩
def GY(hs:List ar)(x:eT)(i:Int)(b:Bool):Int:=bif !x.late then bM (qK x.st x.no x.lt) hs 0 else bif b then i else-1
def aF4{r:Nat}{W:ky}{m0 m1 m2:Value}{hs:List ar}{x:eT}{es:Array MapEntry}{F:List (ar×Value)}{b:Bool}(hH0:ro Hb=some (.cells ⟨W.cells u⟩ 113 (0,0)))(hh0:dq ro (.slice W.ha W.H W.iR) 3 bL hs)(hnh:hs.length<=1000)(hr:ro r=some (.map es ck))(hE:yH mh F es ck)(hl:RV (zI 0) true (⟨x.st,x.no,x.lt⟩:ar) F= .tuple ⟨[zI i,.bool b]⟩):iz zT 155 [zP Hb,.agg ⟨[(.map (some r)),m0,m1,m2]⟩,.agg ⟨[.string x.name,zI x.st,zI x.no,zI x.lt,.bool x.late,zI x.low,zI x.high]⟩] ro (zI (GY hs x i b)):=by
 obtain⟨pW,Zf,Zd,oX,SX,Ze,Su,Ss⟩:=hh0;have hH:ro Hb=some (.cells ⟨[W.a0,W.a1,W.a2,W.a3,W.a4,zI W.D,zI W.S,W.a7,.slice pW hs.length oX,u,W.Ln]⟩ 113 (0,0)):=by rw[<-SX];exact hH0
 refine zE<|zD 2<|jn λb4=>jn λb5=>jd 9 [0]<|js 11 (!x.late) (λh1=>?_) (λh1=>?_)
 ·
  try simp only[zB] at h1
  refine zD 6<|jl (b:=Hb) (off:=0) (m:=11) (vs:=[W.a0,W.a1,W.a2,W.a3,W.a4,zI W.D,zI W.S,W.a7,.slice pW hs.length oX,u,W.Ln]) 8 ⟨_,_,_,.inl hH,rfl⟩<|jd 2 [0]<|zxp [.slice pW hs.length oX,.agg ⟨[zI x.st,zI x.no,zI x.lt]⟩] (λhs=>aao ((show dq _ _ _ _ _ from ⟨pW,Zf,Zd,oX,rfl,Ze,Su,Ss⟩).up hs) (by first|omega| (simp only[aO,zM];omega))) ?_;refine zD 3<|zX (zI (bM (qK x.st x.no x.lt) hs 0)) ⟨by simp[GY, *],rfl⟩
 try simp only[zB] at h1
 refine jd 9 [1,0]<|jlu (kv:=mh) (F:=F) (r:=r) (K:=41) (⟨x.st,x.no,x.lt⟩:ar) (zI 0) true [] [] wM (λs he _=>⟨_,_,he _ _ (.inl hr),hE⟩)<|jw 24 (.tuple ⟨[zI i,.bool b]⟩) hl<|zD 10<|js 27 b (λh2=>?_) (λh2=>?_)
 ·
  subst h2;refine zD 7<|zX (zI i) ⟨by simp[GY, *],rfl⟩
 subst h2;refine zD 7<|zX (zI (-1)) ⟨by simp[GY, *],rfl⟩
def Nu:Nat->List Int->List Int
 |0,ys=>ys
 |j+1,ys=>if ys.getD (j+1) 0 <ys.getD j 0 then Nu j ((ys.set (j+1) (ys.getD j 0)).set j (ys.getD (j+1) 0)) else ys
def O0:Nat->Nat->List Int->List Int
 |0,_,ys=>ys
 |n+1,i,ys=>O0 n (i+1) (Nu i ys)
def yM(xs:List Int):List Int:=O0 (xs.length-1) 1 xs
theorem aj3{j:Int}(h:¬j>0):Nu j.toNat ys=ys:=by rw[show j.toNat=0 by omega];rfl
theorem ayC{i:Nat}(h:ys[i]?=some x):ys.getD i 0=x:=by grind
theorem aj4{j y:Int}(hj:j>0)(hx:ys[j.toNat]?=some x) (hy:ys[(j-1).toNat]?=some y) (h:¬x <y):Nu j.toNat ys=ys:=by
 have e:j.toNat=(j-1).toNat+1:=by omega
 rw[e] at hx ⊢;rw[Nu,ayC hx,ayC hy,cJ h]
theorem ahv{j y x' y':Int}(hj:j>0)(hx:ys[j.toNat]?=some x) (hy:ys[(j-1).toNat]?=some y) (mL:ys[j.toNat]?=some x') (R2:ys[(j-1).toNat]?=some y') (h:x <y):Nu j.toNat ys=Nu (j-1).toNat ((ys.set j.toNat y').set (j-1).toNat x'):=by
 rw[hx] at mL;rw[hy] at R2;cases mL;cases R2;have e:j.toNat=(j-1).toNat+1:=by omega
 rw[e] at hx ⊢;rw[Nu,ayC hx,ayC hy,dW h]
def XH(v:Value)(xs:List Int)(Y:Cells):Prop:=∃ys,(ys=yM xs/\ys.Perm xs)/\bJ v 1 3 eI ys Y
def ac6{n:Nat}(h:yM xs=O0 (n-i.toNat) i.toNat ys)(hi:0<=i/\i <n):yM xs=O0 (n-(i+1).toNat) (i+1).toNat (Nu i.toNat ys):=by
 rw[h,show n-i.toNat=(n-(i+1).toNat)+1 by omega,show (i+1).toNat=i.toNat+1 by omega];rfl
def aiZ{n:Nat}(h:yM xs=O0 (n-i.toNat) i.toNat ys)(hi:¬i <n):ys=yM xs:=by
 rw[h,show n-i.toNat=0 by omega];rfl
def aPS{a:Int}:iz zT 190 [zI a,zI b] ro (.bool (decide (a <b))):=by
 refine zE<|zD 7<|zxp [zI a] (λhs=>aJC)<|zD 13<|zX (.bool (decide (a <b))) ⟨by simp,rfl⟩
def bc3{v:Value}{L:Cells}(ho:bJ v 1 3 eI xs L)(hN:xs.length<=12):eW zT 184 [v,zI 0,zI (xs.length:Int)] ro L (λr Y=>XH v xs Y):=by
 refine zC [.l L]<|zD 7<|iE [1,0,0] [] (λ(zz:Int×(List Int)×Cells)=>[(0,v),(1,zI 0),(2,zI (xs.length:Int)),(6,zI zz.1)]) (λzz=>[.l zz.2.2]) (λzz=>(1<=zz.1)/\bJ v 1 3 eI zz.2.1 zz.2.2/\zz.2.1.Perm xs/\yM xs=O0 (xs.length-zz.1.toNat) zz.1.toNat zz.2.1) (λzz=>((xs.length:Int)-zz.1).toNat) (⟨1,xs,L⟩) ⟨by dsimp only;omega,ho,.refl _,rfl⟩ [0] ?_;rintro⟨i,ys,L⟩ hI K1 cX rest;dsimp only at hI;have hyl:=hI.2.2.1.length_eq;refine zD 7<|zJ 12 (i <(xs.length:Int)) (λh1=>?_) λh1=>?_
 ·
  refine zD 10<|iE [1,0,0,1,0,0,1,0,0] [K1] (λ(zz:Int×(List Int)×Cells)=>[(0,v),(1,zI 0),(2,zI (xs.length:Int)),(6,zI i),(7,zI zz.1)]) (λzz=>[.l zz.2.2]) (λzz=>(0<=zz.1/\zz.1<=i)/\bJ v 1 3 eI zz.2.1 zz.2.2/\zz.2.1.Perm xs/\yM xs=O0 (xs.length-(i+1).toNat) (i+1).toNat (Nu zz.1.toNat zz.2.1)) (λzz=>zz.1.toNat) (⟨i,ys,L⟩) ⟨by dsimp only;omega,hI.2.1,hI.2.2.1,ac6 hI.2.2.2 (by omega)⟩ [0] ?_;rintro⟨j,ys,L⟩ hJ K2 mb rest;dsimp only at hJ;have hyl:=hJ.2.2.1.length_eq;refine zD 7<|js 3 (decide (j>0)) (λh2=>?_) (λh2=>?_)
  ·
   have n6:=h2;replace n6:=ai n6;refine zD 2 ?_;obtain⟨LY,iQ⟩:=zG ys (j.toNat) (by first|omega| (simp only[aO];omega));refine zH j 1 hJ.2.1 iQ λb22 aIt=>zx 0 [0] L (λs _ hZ=>lS hJ.2.1 aIt hZ iQ)<|zD 2<|zW (j-1) ?_;obtain⟨x27,A2⟩:=zG ys ((j-1).toNat) (by first|omega| (simp only[aO];omega));refine zH (j-1) 1 hJ.2.1 A2 λb27 bht=>zx 0 [0] L (λs _ hZ=>lS hJ.2.1 bht hZ A2)<|zxp [zI LY,zI x27] (λhs=>aPS)<|zD 2<|js 30 (decide (LY <x27)) (λh3=>?_) (λh3=>?_)
   ·
    refine zD 9<|zW (j-1)<|zD 2<|zW (j-1) ?_;obtain⟨x41,aaA⟩:=zG ys ((j-1).toNat) (by first|omega| (simp only[List.length_set];omega));refine zH (j-1) 1 hJ.2.1 aaA λb41 bhn=>zx 0 [0] L (λs _ hZ=>lS hJ.2.1 bhn hZ aaA)<|zD 2 ?_;obtain⟨xI,sC⟩:=zG ys (j.toNat) (by first|omega| (simp only[List.length_set];omega));refine zH j 1 hJ.2.1 sC λb45 aeP=>zx 0 [0] L (λs _ hZ=>lS hJ.2.1 aeP hZ sC) ?_;obtain⟨x47,aj9⟩:=zG ys (j.toNat) (by first|omega| (simp only[List.length_set];omega));refine zH j 1 hJ.2.1 aj9 λb47 bhl=>zxo 15 λwA=>jso 0 0 [zI x41] x41 hJ.2.1 bhl aj9 rfl rfl (Nat.le_of_ble_eq_true rfl) λL5 ho6=>eE wA [] ?_;obtain⟨x48,aj8⟩:=zG ((ys.set j.toNat x41)) ((j-1).toNat) (by first|omega| (simp only[List.length_set];omega));refine zH (j-1) 1 ho6 aj8 λb48 bhk=>zxo 17 λuD=>jso 0 0 [zI xI] xI ho6 bhk aj8 rfl rfl (Nat.le_of_ble_eq_true rfl) λL8 ho9=>kV uD<|zD 3<|zW (j-1)<|zD 2<|zF mb (⟨(j-1),((ys.set j.toNat x41).set ((j-1).toNat) xI),L8⟩) ⟨ho9,(EL sC aaA).trans hJ.2.2.1,by dsimp only;rw[hJ.2.2.2,ahv (by omega) iQ A2 sC aaA (of_decide_eq_true (by assumption))]⟩ [0]
   refine zD 4<|zW (i+1)<|zD 2<|zF cX (⟨(i+1),ys,L⟩) ⟨hJ.2.1,hJ.2.2.1,by dsimp only;rw[hJ.2.2.2,aj4 (by omega) iQ A2 (of_decide_eq_false (by assumption))]⟩ [0]
  have n6:=h2;replace n6:=of_decide_eq_false n6;refine zD 16<|zW (i+1)<|zD 2<|zF cX (⟨(i+1),ys,L⟩) ⟨hJ.2.1,hJ.2.2.1,by dsimp only;rw[hJ.2.2.2,aj3 (by omega)]⟩ [0]
 refine zD 2<|zR (.tuple ⟨[]⟩) [] [0] L ⟨ys,⟨aiZ hI.2.2.2 (by omega),hI.2.2.1⟩,hI.2.1⟩
def bc2{v:Value}{L:Cells}{lim:Int}(ho:bJ v 1 3 eI xs L)(hN:xs.length<=12):eW zT 143 [v,zI 0,zI (xs.length:Int),zI lim] ro L (λr Y=>XH v xs Y):=by
 refine zC [.l L]<|zD 9<|iE [1,1,0,0] [] (λ(zz:Nat)=>[(0,v),(1,zI 0),(2,zI (xs.length:Int)),(3,zI lim),(8,.bool true),(9,.bool true)]) (λzz=>[.l L]) (λzz=>True) (λzz=>zz) 0 bW [0] ?_;rintro z hI K1 cX rest;refine zD 5<|zW ((xs.length:Int)-0)<|zD 8<|zJ 23 (((xs.length:Int)-0)<=12) (λh1=>?_) λh1=>?_
 ·
  refine zD 6<|jc (vs:=[v,zI 0,zI (xs.length:Int)]) [0] (bc3 ho hN) ?_;rintro bp1 Y27 ⟨bo6,bfn,bfv⟩;refine zD 2<|zR (.tuple ⟨[]⟩) [] [0] _ ⟨_,bfn,bfv⟩
 exfalso;omega
def aPR{v:Value}{L:Cells}(ho:bJ v 1 3 eI xs L)(hN:xs.length<=12):eW zT 110 [v] ro L (λr Y=>XH v xs Y):=by
 refine zC [.l L]<|zD 3<|jol ho<|zD 6<|je (zU (xs.length:Int)) (amg (by omega))<|zxp [zU (xs.length:Int)] (λhs=>(aJE (by omega)))<|jc (vs:=[v,zI 0,zI (xs.length:Int),zI (ajR xs.length)]) [0] (bc2 ho hN) ?_;rintro bp3 Y10 ⟨bo8,aSk,lK⟩;refine zD 1<|zR (.tuple ⟨[]⟩) [] [0] _ ⟨_,aSk,lK⟩
abbrev MA(x:Int):Value:= zI x
theorem MS(a:Int):∀(es:List MapEntry) (F:List (Int×Value)) (i:Nat),es.map (λe=>(e.key,e.val))=F.map (λx=>(MA x.1,x.2))->Instr.findNow (.int .i64) (MA a) es i=some (tV a F i)
 | [],[],_,_=>rfl
 | [],_::_,_,h=>by simp at h
 |_::_,[],_,h=>by simp at h
 |e::es,x::F,i,h=>by
  simp_all;obtain⟨⟨h1,h2⟩,h3⟩:=h;simp only[Instr.findNow,h1,Instr.sameNow,tV];by_cases hk:a=x.1
  .simp[hk,h2]
  have hb:(a==x.1)=false:=by simp[hk]
  have:=MS a es F (i+1) h3
  grind
def Wc:XP zT 3 MA where
 chk b k α K s Q E h:=by exact h
 find k es F he α K s Q E h:=by
  simp only[Instr.findKey,aH,cY rF,MS k es F 0 he];exact h
 stay k:=by simp[Instr.sameBits]
def apA:Value->Int
 | .int _ n=>n
 |_=>0
theorem keys_eq{es:Array MapEntry}(hE:yH MA F es ck):es.toList.map (λe=>apA e.key)=F.map (·.1):=by
 have h:=qt (List.map λx=>apA x.1) hE.1;simp_all[ng,apA]
def InS(es:Array MapEntry)(F:List (Int×Value))(seen:List Nat)(zs:List Int):Prop:=(zs++(gK es seen).map λe=>apA e.key).Perm (F.map (·.1))
theorem InS.start{es:Array MapEntry}(hE:yH MA F es ck):InS es F [] []:=by
 grind [InS,J9,keys_eq]
theorem InS.step{es:Array MapEntry}{e:MapEntry}{k:Int}(h:InS es F seen zs)(hE:yH MA F es ck)(he:e∈gK es seen)(hk:e.key=MA k):InS es F (seen++[e.born]) (zs++[k]):=by
 refine List.Perm.trans ?_ h
 grind [P6,apA,bC]
theorem InS.fin{es:Array MapEntry}(h:InS es F seen zs)(he:gK es seen=[]):zs.Perm (F.map (·.1)):=by
 grind [InS]
theorem InS.len{es:Array MapEntry}(h:InS es F seen zs):zs.length<=F.length:=by
 have:=h.length_eq
 grind
def apu{m:Nat}{es:Array MapEntry}(hr:ro m=some (.map es ck))(hE:yH MA F es ck)(hn:F.length<=12):eW zT 58 [(.map (some m))] ro [] (λr Y=>∃zs,zs.Perm (F.map (·.1))/\bJ r 1 3 eI (yM zs) Y):=by
 refine zE<|zD 12<|jmR hr λr6=>jg 0 [.b r6 (w6 m ck [])]<|zD 2<|wN<|iE [1,1,0,1,0,0] [] (λ(zz:(List Nat)×Value×Cells×(List Int))=>[(2,zS),(3,zz.2.1),(6,zP r6)]) (λzz=>[.b r6 (w6 m ck zz.1),.l zz.2.2.1]) (λzz=>bJ zz.2.1 1 3 eI zz.2.2.2 zz.2.2.1/\InS es F zz.1 zz.2.2.2) (λzz=>(gK es zz.1).length) (⟨[],zS,[],[]⟩) ⟨bJ.nil _ _ _,InS.start hE⟩ [1,0] ?_;rintro⟨seen,v,L,zs⟩ hI K1 cX rest;dsimp only at hI;refine zD 2<|jmN (it:=r6) (kv:=MA) (seen:=seen) 0 hr hE (λk7 v7 e7 hf7 he7 hk7 hv7=>?_) (λhz7=>?_)
 ·
  have hzl:=hI.2.len;refine jg 0 [.b r6 (w6 m ck (seen++[e7.born]))]<|zD 8<|jmE (it:=r6) 0 hr hE he7 hk7 hv7<|jg 0 [.b r6 (w6 m ck (seen++[e7.born]))]<|zD 6<|jn λBe=>zxl eI Be k7 2 0 (hI.1) λnu nq Ao dg=>zD 2<|dY cX (⟨(seen++[e7.born]),(.slice nu ((zs++[k7])).length nq),Ao,(zs++[k7])⟩) ⟨dg,hI.2.step hE he7 hk7⟩ (DK he7) [2,0] (Sub.refl _)
 refine jg 0 [.b r6 (w6 m ck seen)]<|zD 8<|jc (vs:=[v]) [1] (aPR hI.1 (by have:=hI.2.len;omega)) ?_;rintro bp2 Y16 ⟨bo7,bfo,bfx⟩;refine zD 7<|zR _ [] [0] _ ⟨zs,hI.2.fin hz7,by rw[<-bfo.1];exact bfx⟩
def iv(f k:Int):Bool:=decide (aj5 .u8 (mV .u8 f k) 1=1)
def mw(f:Int):Nat->List Int
 |0=>[]
 |k+1=>mw f k++(bif iv f k then [(k:Int)] else [])
theorem awR{k:Nat}(h:iv f (k:Int)=true):mw f (k+1)=mw f k++[(k:Int)]:=by rw[mw,h];rfl
theorem awS{k:Nat}(h:iv f (k:Int)=false):mw f (k+1)=mw f k:=by rw[mw,h];exact eR _
def J8(f:Int)(n:Nat):(mw f n).length<=n:=by
 induction n with
 |zero=>exact bu _
 |succ n ih=>rw[mw,aM];cases iv f (n:Int)<;>simp<;>omega
def ad9:eW zT 116 [.int .u8 f] ro [] (λr Y=>bJ r 1 3 eI (mw f 5) Y):=by
 refine zE<|zD 14<|wN<|iE [1,1,0,1,0,0] [] (λ(zz:Nat×Value×Cells)=>[(0,.int .u8 f),(2,zS),(3,zz.2.1),(5,zI (zz.1:Int))]) (λzz=>[.l zz.2.2]) (λzz=>zz.1<=5/\bJ zz.2.1 1 3 eI (mw f zz.1) zz.2.2) (λzz=>5-zz.1) (⟨0,zS,[]⟩) ⟨by dsimp only;omega,bJ.nil _ _ _⟩ [0] ?_;rintro⟨k,v,L⟩ hI K1 cX rest;dsimp only at hI;have FC:=J8 f k;refine zD 5<|zJ 6 ((k:Int) <5) (λh1=>?_) λh1=>?_
 ·
  refine zD 13<|jsr (k:= .u8) (k':= .i64) (a:=f) (b:=(k:Int)) 137 (by omega)<|zD 3<|zJ 12 ((aj5 .u8 (mV .u8 f (k:Int)) 1)=1) (λh2=>?_) λh2=>?_
  ·
   refine zD 4<|jn λxH=>zxl eI xH (k:Int) 1 0 (hI.2) λbak aZ2 L16 aqu=>zD 3<|zW ((k:Int)+1)<|zD 2<|zF cX (⟨k+1,(.slice bak (((mw f k)++[(k:Int)])).length aZ2),L16⟩) (by dsimp only;rw[awR (decide_eq_true (by assumption))];exact aqu) [0]
  refine zD 3<|zW ((k:Int)+1)<|zD 2<|zF cX (⟨k+1,v,L⟩) (by dsimp only;rw[awS (decide_eq_false (by assumption))];exact hI.2) [0]
 refine zD 8<|zR _ [] [0] L (by rw[<-show k=5 by omega];exact hI.2)
def aF2{t:cv}{b4:Nat}{a:Int}(g1:ro b1=some (.cells ⟨[.func (.func 63) ⟨[zP y]⟩ ⟨[]⟩]⟩ 131 (0,0)))(g2:ro b2=some (.cells ⟨[zI (p:Int)]⟩ 3 (0,0)))(g3:ro b3=some (.cells ⟨[zI (d:Int)]⟩ 3 (0,0)))(g4:ro b4=some (.cells ⟨[zI h]⟩ 3 (0,0)))(hp:p <3)(hd:d <4)(ha:0<=a/\a<=n)(hn:n<=1000000):eW zT 64 [.agg ⟨[zI t.past,zI t.x.a,zI t.x.b,zI t.x.c,zI t.x.d,zI t.y.a,zI t.y.b,zI t.y.c,zI t.y.d,zI t.z.a,zI t.z.b,zI t.z.c,zI t.z.d]⟩,zP b1,zP b2,zP b3,zP b4] ro [(y,.cells ⟨[zI a,zI n]⟩ 130 (0,0))] (λr Y=>r= .tuple ⟨[]⟩/\Y=[(y,.cells ⟨[zI (a+bif (decide ((t.at p).at d=h)) then 1 else 0),zI (n+1)]⟩ 130 (0,0))]):=by
 refine zC [zxc y 130 [zI a,zI n]]<|zD 2<|jn λb5=>zD 2<|jl (b:=b1) (off:=0) (m:=1) (vs:=[.func (.func 63) ⟨[zP y]⟩ ⟨[]⟩]) 0 ⟨_,_,_,.inl g1,rfl⟩<|jl (b:=b2) (off:=0) (m:=1) (vs:=[zI (p:Int)]) 0 ⟨_,_,_,.inl g2,rfl⟩<|jl (b:=b3) (off:=0) (m:=1) (vs:=[zI (d:Int)]) 0 ⟨_,_,_,.inl g3,rfl⟩<|zD 1<|Jg (b:=b5) (off:=1) (len:=3) (sz:=4) (p:Int) (by omega)<|Jg (b:=b5) (off:=1+(p:Int).toNat*4) (len:=4) (sz:=1) (d:Int) (by omega)<|zx (b:=b5) (off:=1+(p:Int).toNat*4+(d:Int).toNat*1) (m:=1) (vs:=[zI ((t.at p).at d)]) 0 [0] [(b5,.cells ⟨[zI t.past,zI t.x.a,zI t.x.b,zI t.x.c,zI t.x.d,zI t.y.a,zI t.y.b,zI t.y.c,zI t.y.d,zI t.z.a,zI t.z.b,zI t.z.c,zI t.z.d]⟩ 123 (0,0))] (λs _ hZ=>lR (hZ _ (.head _)) (HK (t:=t) (by omega) (by omega)))<|jl (b:=b4) (off:=0) (m:=1) (vs:=[zI h]) 0 ⟨_,_,_,.inl g4,rfl⟩<|zD 1<|zxo 9 λtT=>jc (vs:=[zP y,.bool (decide (((t.at p).at d)=h))]) [1] (apv (y:=y) (c:=(decide ((t.at p).at d=h))) ha hn) ?_;rintro _ _ ⟨rfl,rfl⟩;refine jg 0 [zxc y 130 [zI (a+bif (decide ((t.at p).at d=h)) then 1 else 0),zI (n+1)]]<|eE tT [[],[1],[],[]]<|zD 1<|zR _ [] [0] _ ⟨rfl,rfl⟩
def aw0{t:cv}{m:Nat}{L:Cells}(g1:ro b1=some (.cells ⟨[.map (some m)]⟩ 117 (0,0)))(g2:ro b2=some (.cells ⟨[zI (p:Int)]⟩ 3 (0,0)))(g3:ro b3=some (.cells ⟨[zI (d:Int)]⟩ 3 (0,0)))(hp:p <3)(hd:d <4)(hm:iq m MA F L):eW zT 57 [.agg ⟨[zI t.past,zI t.x.a,zI t.x.b,zI t.x.c,zI t.x.d,zI t.y.a,zI t.y.b,zI t.y.c,zI t.y.d,zI t.z.a,zI t.z.b,zI t.z.c,zI t.z.d]⟩,zP b1,zP b2,zP b3] ro L (λr Y=>r= .tuple ⟨[]⟩/\iq m MA (jL ((t.at p).at d) (.bool true) F) Y):=by
 refine zC [.l L]<|zD 2<|jn λb4=>zD 2<|jl (b:=b1) (off:=0) (m:=1) (vs:=[(.map (some m))]) 0 ⟨_,_,_,.inl g1,rfl⟩<|jl (b:=b2) (off:=0) (m:=1) (vs:=[zI (p:Int)]) 0 ⟨_,_,_,.inl g2,rfl⟩<|jl (b:=b3) (off:=0) (m:=1) (vs:=[zI (d:Int)]) 0 ⟨_,_,_,.inl g3,rfl⟩<|zD 1<|Jg (b:=b4) (off:=1) (len:=3) (sz:=4) (p:Int) (by omega)<|Jg (b:=b4) (off:=1+(p:Int).toNat*4) (len:=4) (sz:=1) (d:Int) (by omega)<|zx (b:=b4) (off:=1+(p:Int).toNat*4+(d:Int).toNat*1) (m:=1) (vs:=[zI ((t.at p).at d)]) 0 [0] [(b4,.cells ⟨[zI t.past,zI t.x.a,zI t.x.b,zI t.x.c,zI t.x.d,zI t.y.a,zI t.y.b,zI t.y.c,zI t.y.d,zI t.z.a,zI t.z.b,zI t.z.c,zI t.z.d]⟩ 123 (0,0))] (λs _ hZ=>lR (hZ _ (.head _)) (HK (t:=t) (by omega) (by omega)))<|zxo 7 λtT=>XZ (kv:=MA) (F:=F) (r:=m) (K:=3) 1 ((t.at p).at d) (.bool true) Wc hm λLm2 yx=>kV tT<|zD 1<|zR _ [] [0] _ ⟨rfl,yx⟩
def kE(x:cy):List Int:=[x.a,x.b,x.c,x.d]
def apQ{v:Value}(hl:dq ro v 1 eI xs)(hn:xs.length<=1000000):iz zT 72 [v,zI n] ro (zI (bM (λy=>decide (n=y)) xs 0)):=by
 obtain⟨fQ,rK,rJ,fg,rfl,tJ,nj,nY⟩:=hl;refine zE<|zD 12<|iE [1,0,1,0,0] [] (λ(zz:Nat)=>[(0,.slice fQ xs.length fg),(1,zI n),(7,zI (xs.length:Int)),(8,zI (zz:Int))]) (λzz=>[]) (λzz=>zz<=xs.length/\bM (λy=>decide (n=y)) xs 0=bM (λy=>decide (n=y)) (xs.drop zz) zz) (λzz=>xs.length-zz) 0 ⟨by omega,rfl⟩ [] ?_;rintro k hI K1 cX rest;refine zD 5<|zJ 9 ((k:Int) <(xs.length:Int)) (λh1=>?_) λh1=>?_
 ·
  refine zD 14<|zxt xs k fg 1 nj nY λu4 iB=>zD 2<|zJ 16 (n=u4) (λh2=>?_) λh2=>?_
  ·
   refine zD 7<|zX (zI (k:Int)) ⟨by rw[hI.2,p5 iB];simp[*],rfl⟩
  refine zD 3<|zW ((k:Int)+1)<|zD 2<|zY cX (k+1) ⟨by omega,by rw[hI.2,p5 iB];simp[*]⟩ []
 refine zD 7<|zX (zI (-1)) ⟨by rw[hI.2,A9 (by omega)],rfl⟩
def bed{v:Value}(hl:dq ro v 1 eI xs)(hn:xs.length<=1000000):iz zT 156 [v,zI n] ro (.bool (decide (bM (λy=>decide (n=y)) xs 0>=0))):=by
 obtain⟨fQ,rK,rJ,fg,rfl,tJ,nj,nY⟩:=hl;refine zE<|zD 8<|zxp [.slice fQ xs.length fg,zI n] (λhs=>apQ ((show dq _ _ _ _ _ from ⟨fQ,rK,rJ,fg,rfl,tJ,nj,nY⟩).up hs) (by first|omega| (simp only[aO,zM];omega))) ?_;refine zD 4<|zX _ ⟨rfl,rfl⟩
structure eQ where
 str:List (List ax)
 ways:List (List aP)
 aU:List ByteArray
 rules:List gA
 days:Int
 stay:Int
 bO:List eT
def yl(ro:Nat->Option Obj)(l:List Value)(K:eQ):Prop:=∃(vS vT vP vR vE:Value) (fa:Option Addr) (fc:Nat),l=[vS,vT,.slice fa 0 fc,vP,vR,zI K.days,zI K.stay,vE]/\bH ro vS K.str/\kL ro vT K.ways/\dq ro vP 1 nU K.aU/\dq ro vR 2 jT K.rules/\dq ro vE 7 tv K.bO
def yl.up{bU:Nat->Option Obj}{K:eQ}(h:yl ro l K)(hs:Sub ro bU):yl bU l K:=by
 obtain⟨vS,vT,vP,vR,vE,fa,fc,h0,h1,h2,h3,h4,h5⟩:=h;exact⟨vS,vT,vP,vR,vE,fa,fc,h0,h1.up hs,h2.up hs,h3.up hs,h4.up hs,h5.up hs⟩
structure azz(K:eQ):Prop where
 sV:cg K.str
 ways:oB K.str K.ways
 h3:(aI K.str).length<=3
 ne:1<=(dt K.str K.ways).length
 rules:K.rules.length<=4/\∀r∈K.rules,zg r
 aU:K.aU.length<=1000/\∀w∈K.aU,rj w
 bO:K.bO.length<=1000/\∀x∈K.bO,rj x.name
def eQ.hs(K:eQ):List ar:=aI K.str
def eQ.jk(K:eQ)(x:eT):Int:=Go.L.jk K.str.length K.hs K.days x
def Ea(f:eT->Int):List eT->Int
 | []=>0
 |x::l=>bif !decide (f x=0) then f x else Ea f l
theorem aia{f:eT->Int}{l:List eT}{k:Nat}{x:eT}(h:l[k]?=some x):Ea f (l.drop k)=bif !decide (f x=0) then f x else Ea f (l.drop (k+1)):=by rw[lg h];rfl
def agR(K:eQ):Int:=
 bif !decide (Dw K.aU=0) then Dw K.aU else bif decide (((K.hs).length:Int)=0) then 7 else bif decide ((K.aU.length:Int)*(K.hs.length:Int)>6) then 6 else
 bif !pF K.days 1 4|| !pF K.stay 1 K.days then 1 else bif decide ((K.bO.length:Int)>5) then 6 else Ea K.jk K.bO
def aA6:rj (bs [97]):=⟨⟨by decide,by decide⟩,.inl (show ∀b∈([97]:List _),Nt b=true by decide)⟩
def mulR{a b:Nat}(ha:a<=3)(hb:b<=8):(a:Int)*(b:Int)<=24/\0<=(a:Int)*(b:Int):=by
 have:=Nat.mul_le_mul ha hb;omega
theorem agK{xs:List ByteArray}(h:Dw xs=0):1<=xs.length/\xs.length<=3:=by
 grind [Dw]
theorem DD{K:eQ}(h:agR K=0):Dw K.aU=0/\K.hs.length≠0/\(K.aU.length:Int)*(K.hs.length:Int)<=6/\((1<=K.days/\K.days<=4)/\1<=K.stay/\K.stay<=K.days)/\K.bO.length<=5/\Ea K.jk K.bO=0:=by
 unfold agR at h;by_cases h1:Dw K.aU=0
 .rw[cb h1] at h;by_cases h2:((K.hs).length:Int)=0
  .rw[cb h2] at h;simp at h
  rw[cG h2] at h;by_cases h3:(K.aU.length:Int)*(K.hs.length:Int)>6
  .rw[cb h3] at h;simp at h
  grind [cG,pF,cb,absurd]
 rw[cG h1] at h;exact absurd h h1
theorem ayY{f:eT->Int}{l:List eT}{k:Nat}{x:eT}(h:l[k]?=some x) (h0:f x=0):Ea f (l.drop k)=Ea f (l.drop (k+1)):=by grind [aia,cb]
theorem ayX{f:eT->Int}{l:List eT}{k:Nat}{x:eT}(h:l[k]?=some x) (h0:¬f x=0):Ea f (l.drop k)=f x:=by grind [aia,cG]
def eQ.W(K:eQ):List (List Int):=(dt K.str K.ways).map (·.ways)
def aQM{K:eQ}(hK:yl ro l K)(hC:azz K)(hE:agR K=0):eW zT 52 [.agg ⟨l⟩] ro [] (λr Y=>∃b ha hc LH wa wn wc Lw,r= .tuple ⟨[zP b,.slice wa wn wc,zI 0]⟩/\Y=(b,.cells ⟨l++[.slice ha (aI K.str).length hc,zS,zS]⟩ 113 (0,0))::(LH++Lw)/\bJ (.slice ha (aI K.str).length hc) 3 41 bL (aI K.str) LH/\wn=K.W.length/\∀As,Knows As Lw->at6 As (.slice wa wn wc) K.W):=by
 obtain⟨vS,vT,vP,vR,vE,fa,fc,rfl,hS,hT,hp,hr,he⟩:=hK;have C9:=hp;have he0:=he;have Ae:=hr;obtain⟨iD,zr,zo,g9,rfl,CE,zq,zp⟩:=hp;obtain⟨iu,zu,zt,ia,rfl,Je,yu,yt⟩:=he;have Ni:∀(i:Nat) (p:iy),([]:List iy)[i]?=some p->eK ⟨ro,[]⟩ 0 (0+i*6) 6 (oA p):=λ_ _ h=>tP h;obtain⟨n9,Ji,lu⟩:=id hS;have Bn:=lu.len;have mM:=hC.sV.two;have Qz:=rE (S:=K.str) hC.ways;have hTp:=hC.ne;have hhl:(aI K.str).length<=8:=bS hC.h3 (by decide);have xE:=hC.aU.1;have hel:=hC.bO.1;obtain⟨oe1,oe2,oe3,oe4,oe5,oe6⟩:=DD hE;have oel:=agK oe1;simp only[eQ.hs] at oe2 oe3;refine zE<|zD 2<|jn λb1=>jd 8 [0]<|jn λb16=>jd 6 [1]<|jc (vs:=[.agg ⟨[vS,vT,.slice fa 0 fc]⟩]) [] (ah1 hS hC.sV hT hC.ways hC.h3) ?_;rintro _ Lw ⟨wa,wn,wc,rfl,hwn,hWW⟩;simp only[dj] at hwn;refine zD 21<|zJ 28 ((wn:Int)=0) (λh1=>?_) λh1=>?_
 ·
  exfalso;omega
 refine zD 9<|zJ 31 ((wn:Int)>4) (λh2=>?_) λh2=>?_
 ·
  exfalso;omega
 refine zD 6<|jp (vs:=[zP b16]) [1] [(b16,.cells ⟨[vS,vT,.slice fa 0 fc,.slice iD K.aU.length g9,vR,zI K.days,zI K.stay,.slice iu K.bO.length ia,zS,zS,zS]⟩ 113 (0,0))] (λcK hs hZ=>aw3 (W:=⟨vS,vT,.slice fa 0 fc,.slice iD K.aU.length g9,vR,.slice iu K.bO.length ia,zS,K.days,K.stay,none,0,0⟩) (u:= zS) hZ.head (C9.up hs) hC.aU.1 hC.aU.2)<|zD 7<|js 35 (!decide ((Dw K.aU)=0)) (λh3=>?_) (λh3=>?_)
 ·
  replace h3:=ah (by simpa using h3);exfalso;omega
 replace h3:=ai (by simpa using h3);refine jd 8 [2]<|jc (vs:=[.agg ⟨[vS]⟩]) [] (aw5 hS hC.sV) ?_;rintro v41 L41 akg;obtain⟨acT,Yu,aH3⟩:=akg.form;subst aH3;refine jd 14 [2,2]<|zJ 49 (((aI K.str).length:Int)=0) (λh4=>?_) λh4=>?_
 ·
  exfalso;omega
 refine jd 16 [2,2]<|ja ((K.aU.length:Int)*((aI K.str).length:Int)) (by have:=mulR (show K.aU.length<=3 by omega) hhl;omega) ?_;refine zD 2<|zJ 62 (((K.aU.length:Int)*((aI K.str).length:Int))>6) (λh5=>?_) λh5=>?_
 ·
  exfalso;omega
 refine jd 7 [3]<|zxp [vR,.string (bs [97]),.string (bs [97])] (λhs=>ZX (Ae.up hs) hC.rules.2 hC.rules.1 aA6 aA6)<|jd 18 [3]<|zxp [zI K.days,zI 1,zI 4] (λhs=>SC)<|zD 2<|jj 7 [(1,zP b1),(2,.pointer none),(3,zS),(4,zI 0),(5,zP b16),(6,.slice wa wn wc),(83,.bool ((!(pF K.days 1 4))||(!(pF K.stay 1 K.days))))] (λni=>?_) (λhj=>?_);rotate_left;refine js 76 (!(pF K.days 1 4)) (λh6=>?_) (λh6=>?_)
 ·
  have G5:=h6
  try simp only[zB] at G5
  refine zD 7<|zxw 83 hj (zyc h6)
 ·
  have G5:=h6
  try simp only[zB] at G5
  refine jd 4 [3,3]<|zxp [zI K.stay,zI 1,zI K.days] (λhs=>SC)<|zD 2<|zxw 83 hj (zyd h6)
 refine zD 1<|js 83 ((!(pF K.days 1 4))||(!(pF K.stay 1 K.days))) (λh7=>?_) (λh7=>?_)
 ·
  try simp only[zB] at h7
  exfalso;simp[pF] at h7;omega
 try simp only[zB] at h7
 refine jd 10 [3]<|zJ 87 ((K.bO.length:Int)>5) (λh8=>?_) λh8=>?_
 ·
  exfalso;omega
 refine jd 11 [3]<|iE [1,1,1,1,1,1,1,1,1,1,1,1,1,0,1,0,0] [] (λ(zz:Nat)=>[(5,zP b16),(6,.slice wa wn wc),(89,.slice iu K.bO.length ia),(90,zI (K.bO.length:Int)),(91,zI (zz:Int))]) (λzz=>[.l L41,.l Lw,zxc b16 113 [vS,vT,.slice fa 0 fc,.slice iD K.aU.length g9,vR,zI K.days,zI K.stay,.slice iu K.bO.length ia,(.slice acT (aI K.str).length Yu),zS,zS],zxc b1 33 [vS,vT,.slice fa 0 fc,.slice iD K.aU.length g9,vR,zI K.days,zI K.stay,.slice iu K.bO.length ia]]) (λzz=>zz<=K.bO.length/\Ea K.jk K.bO=Ea K.jk (K.bO.drop zz)) (λzz=>K.bO.length-zz) 0 ⟨bK _,rfl⟩ (zN 0 4) ?_;rintro k hI K1 cX rest;refine zD 5<|zJ 92 ((k:Int) <(K.bO.length:Int)) (λh9=>?_) λh9=>?_
 ·
  refine zD 6<|zxt K.bO k ia 7 yu yt λx93 Wq=>jn λHv=>jd 6 [0,0]<|jp (vs:=[zP b16,.agg ⟨[.string x93.name,zI x93.st,zI x93.no,zI x93.lt,.bool x93.late,zI x93.low,zI x93.high]⟩]) [3,1] ((b16,.cells ⟨[vS,vT,.slice fa 0 fc,.slice iD K.aU.length g9,vR,zI K.days,zI K.stay,.slice iu K.bO.length ia,(.slice acT (aI K.str).length Yu),zS,zS]⟩ 113 (0,0))::L41) (λcK hs hZ=>(show iz _ _ _ _ (zI (K.jk x93)) from by rw[eQ.jk,<-Bn];exact aw7 (W:=⟨vS,vT,.slice fa 0 fc,.slice iD K.aU.length g9,vR,.slice iu K.bO.length ia,zS,K.days,K.stay,acT,(aI K.str).length,Yu⟩) (u:= zS) (ws:=n9) (hs:=(aI K.str)) hZ.head (Ji.up hs) (akg.jI hZ.tail) (by omega) (by omega) (show 1<=K.days/\K.days<=4 by omega) (hC.bO.2 _ (zL Wq)))) ?_;refine zD 7<|js 99 (!decide ((K.jk x93)=0)) (λxF=>?_) (λxF=>?_)
  ·
   replace xF:=ah (by simpa using xF);exfalso;have e:=ayX (f:=K.jk) Wq (by omega);rw[<-hI.2,oe6] at e;omega
  replace xF:=ai (by simpa using xF);refine zD 3<|zW ((k:Int)+1)<|zD 2<|zY cX (k+1) ⟨by omega,by rw[hI.2,ayY Wq (by omega)]⟩ [1,2,3,4]
 refine zD 11<|zR (.tuple ⟨[zP b16,.slice wa wn wc,zI 0]⟩) [] [2,0,1] _ ⟨_,_,_,_,_,_,_,_,rfl,rfl,akg,by simp only[eQ.W,dj];exact hwn,hWW⟩
theorem G9{β:Type}{f g:α->List β}:∀ {l:List α},(∀x∈l,(f x).Perm (g x))->(l.flatMap f).Perm (l.flatMap g)
 | [],_=> .nil
 |x::l,h=>by
  exact(h x (by simp)).append (G9 λy hy=>h y (by grind))
def QI{ls ls':List cy}{mk:Nat->Nat->cy->Int}(h:ls.Perm ls'):∀n t p m,(nQ D ls mk need n t p m).Perm (nQ D ls' mk need n t p m)
 |0,_,_,_=> .refl _
 |n+1,t,p,m=>by
  refine(List.Perm.flatMap_right _ h).trans (G9 λx _=>?_);cases ql D t p x with
  |false=>rfl
  |true=>exact QI h n _ _ _
def aiQ{ls ls':List cy}{mk:Nat->Nat->cy->Int}{k:Nat}(h:ls.Perm ls'):(j9 D ls mk np k need).Perm (j9 D ls' mk np k need):=G9 λ_ _=>QI h _ _ _ _
def Wb(f:cv->Int)(L:List cv):List (Int×Value):=L.foldl (λF t=>jL (f t) (.bool true) F) []
theorem IB[DecidableEq κ]{k:κ}:∀ {F:List (κ×Value)} {i:Nat},tV k F i=none->k∉F.map (·.1)
 | [],_,_=>by simp
 |x::l,i,h=>by
  unfold tV at h;split at h
  .grind
  rename_i eo;simp only[bV,aS,not_or];exact⟨eo,IB h⟩
theorem N6{k:κ}{v:Value}:∀ {F:List (κ×Value)} {i:Nat} {u:Value},F[i]?=some (k,u)->(yA k v F i).map (·.1)=F.map (·.1)
 | [],_,_,h=>by rfl
 |x::l,0,u,h=>by grind [yA]
 |x::l,i+1,u,h=>by simp at h;simp[yA,N6 h]
theorem agb[DecidableEq κ]{k:κ}{v:Value}{F:List (κ×Value)}:(jL k v F).map (·.1)=F.map (·.1)/\k∈F.map (·.1)\/(jL k v F).map (·.1)=F.map (·.1)++[k]/\k∉F.map (·.1):=by
 unfold jL;split
 .rename_i i u hf;have h:=(th hf).2;exact .inl ⟨N6 h,bB.2 ⟨_,zL h,rfl⟩⟩
 grind [IB]
theorem Tg[DecidableEq κ]{k:κ}{v:Value}{F:List (κ×Value)}(h:(F.map (·.1)).Nodup):((jL k v F).map (·.1)).Nodup:=by
 grind [agb,eF]
theorem aga[DecidableEq κ]{k x:κ}{v:Value}{F:List (κ×Value)}:x∈(jL k v F).map (·.1)↔x=k\/x∈F.map (·.1):=by
 grind [agb]
theorem Uz{f:cv->Int}:∀(L:List cv) (F:List (Int×Value)),(F.map (·.1)).Nodup->((L.foldl (λF t=>jL (f t) (.bool true) F) F).map (·.1)).Nodup/\∀x,x∈(L.foldl (λF t=>jL (f t) (.bool true) F) F).map (·.1)↔x∈F.map (·.1)\/∃t∈L,f t=x
 | [],F,h=>⟨h,λx=>by simp⟩
 |t::L,F,h=>by
  have:=Uz (f:=f) L (jL (f t) (.bool true) F) (Tg h)
  grind [aga]
theorem T7{f:cv->Int}{L:List cv}{k:Nat}{t:cv}(h:L[k]?=some t):Wb f (L.take (k+1))=jL (f t) (.bool true) (Wb f (L.take k)):=by
 grind [List.take_add_one,Wb]
theorem ajW{f:cv->Int}{L L':List cv}(hz:zs.Perm ((Wb f L).map (·.1)))(hL:L.Perm L')(hd:ds.Nodup)(hm:(ds.all λx=>L'.any λt=>decide (f t=x))=true)(ha:(L'.all λt=>ds.contains (f t))=true):zs.Perm ds:=by
 obtain⟨h1,h2⟩:=Uz (f:=f) L [] Sd
 grind [List.perm_ext_iff_of_nodup,Wb]
def tw(q:cv->Bool)(L:List cv):Int:=((L.countP q:Nat):Int)
theorem Le{q:cv->Bool}{L L':List cv}(h:L.Perm L'):tw q L=tw q L':=by rw[tw,tw,h.countP_eq]
theorem US{q:cv->Bool}{L:List cv}{k:Nat}{t:cv}(h:L[k]?=some t):tw q (L.take (k+1))=tw q (L.take k)+bif q t then 1 else 0:=by
 grind [List.take_add_one,tw,Option.toList]
theorem aij{q:cv->Bool}{L:List cv}{k:Nat}(h:k<=L.length):0<=tw q (L.take k)/\tw q (L.take k)<=k:=by
 grind [List.countP_le_length,cw,tw]
def GU(g:ar->List ar)(S:List (ar×Value)):List (ar×Value):=S.flatMap λq=>(dh pP (g q.1)).map λx=>(x,q.2)
structure alq(hs:List ar)(g:ar->List ar)(F:List (ar×Value)):Prop where
 m:∀p,p∈F↔∃(i:Nat) (h x:ar),hs[i]?=some h/\x∈g h/\p=(x,zI (i:Int))
 n:(F.map (·.1)).Nodup
def H7(hs:List ar)(k:Nat):List (ar×Value):=(List.range k).filterMap λ(i:Nat)=>(hs[i]?).map λh=>(h,zI (i:Int))
theorem TQ{hs:List ar}{k:Nat}{x:ar}(h:hs[k]?=some x):H7 hs (k+1)=H7 hs k++[(x,zI (k:Int))]:=by
 grind [H7,Gi]
theorem ZP{hs:List ar}{k:Nat}{p:ar×Value}:p∈H7 hs k↔∃i x,i <k/\hs[i]?=some x/\p=(x,zI (i:Int)):=by
 grind [H7]
theorem Eo{l:List α}(hn:l.Nodup){i:Nat}{x:α}(h1:l[i]?=some x) (h2:l[j]?=some x):i=j:=by
 grind [aB,RR]
theorem aoO{hs:List ar}(hn:hs.Nodup){k:Nat}{x:ar}(h:hs[k]?=some x):jL x (zI (k:Int)) (H7 hs k)=H7 hs (k+1):=by
 have:x∉(H7 hs k).map (·.1):=λhx=>by
  obtain⟨p,hp,rfl⟩:=bB.1 hx;obtain⟨i,y,hi,hy,rfl⟩:=ZP.1 hp
  grind [Eo]
 grind [TQ,HI]
theorem TR{hs:List ar}:∀k,k<=hs.length->(H7 hs k).map (·.1)=hs.take k
 |0,_=>by rfl
 |k+1,hk=>by
  rw[TQ (af _),cC,TR k (by omega),List.take_add_one,af (show k <hs.length by omega)];rfl
theorem aDG{hs:List ar}(hn:hs.Nodup):alq hs rO (H7 hs hs.length) where
 m p:=by
  rw[ZP];constructor
  .rintro⟨i,x,_,hx,rfl⟩;exact⟨i,x,x,hx,by simp[rO],rfl⟩
  rintro⟨i,h,x,hx,hm,rfl⟩;simp only[rO,aV] at hm;grind
 n:=by rw[TR _ (bu _),List.take_length];exact hn
def HE(hs:List ar)(g:ar->List ar)(x:ar):Int:=bM (λh=>decide (x∈g h)) hs 0
def Si(hs:List ar)(g:ar->List ar)(x:ar):Int:=bif decide (HE hs g x>=0) then HE hs g x else 0
def QZ{p:α->Bool}:∀ {l:List α} {k:Nat},(bM p l k= -1/\∀x∈l,p x=false)\/∃i x,l[i]?=some x/\p x=true/\bM p l k=((k+i:Nat):Int)
 | [],k=> .inl ⟨rfl,by simp⟩
 |y::l,k=>by
  simp only[bM];cases hy:p y with
  |true=>exact .inr ⟨0,y,rfl,hy,by simp⟩
  |false=>
   rcases QZ (p:=p) (l:=l) (k:=k+1) with ⟨h1,h2⟩| ⟨i,x,h1,h2,h3⟩
   .exact .inl ⟨h1,λx hx=>(aS.1 hx).elim (λe=>e▸hy) (h2 x)⟩
   exact .inr ⟨i+1,x,by simpa using h1,h2,by simp only[fJ];rw[h3];congr 1;omega⟩
theorem apz{F:List (ar×Value)}(hn:(F.map (·.1)).Nodup){k:ar}{v:Value}(h1:(k,u)∈F)(h2:(k,v)∈F):u=v:=by
 obtain⟨i,hi⟩:=dA h1;obtain⟨j,hj⟩:=dA h2;have:=Eo hn (i:=i) (j:=j) (x:=k) (by grind) (by grind)
 grind
def amn{hs:List ar}{g:ar->List ar}{F:List (ar×Value)}(h:alq hs g F)(x:ar):RV (zI 0) true x F= .tuple ⟨[zI (Si hs g x),.bool (decide (HE hs g x>=0))]⟩:=by
 simp only[RV];rcases QZ (p:=λh=>decide (x∈g h)) (l:=hs) (k:=0) with ⟨h1,h2⟩| ⟨i,y,h1,h2,h3⟩
 .have wP:x∉F.map (·.1):=λhx=>by
   obtain⟨p,hp,rfl⟩:=bB.1 hx;obtain⟨j,z,w,hz,hw,rfl⟩:=(h.m p).1 hp;exact ah (h2 z (zL hz)) hw
  have:lkM x F=none:=by
   cases hf:lkM x F with
   |none=>rfl
   |some u=>
    simp only[lkM,dQ] at hf;obtain⟨q,hq,_⟩:=hf;exact absurd (dR (f:=(·.1)) (zL (th (j:=q.1) (v:=q.2) hq).2)) wP
  simp[this,Si,HE,h1]
 rw[iV] at h3;have hx:=(h.m _).2 ⟨i,y,x,h1,ai h2,rfl⟩;obtain⟨v,hv,hm⟩:=Oc (dR (f:=(·.1)) hx);have:=apz h.n hm hx;subst this;simp[hv,Si,HE,h3]
theorem ahw{g:ar->List ar}{S:List (ar×Value)}{p:ar×Value}:p∈GU g S↔∃q∈S,∃x∈g q.1,p=(x,q.2):=by
 simp only[GU,eZ,bB,ko];constructor
 .rintro⟨q,hq,x,hx,rfl⟩;exact⟨q,hq,x,hx,rfl⟩
 rintro⟨q,hq,x,hx,rfl⟩;grind
theorem apP{g:ar->List ar}{S:List (ar×Value)}{k:ar}{v:Value}:GU g (S++[(k,v)])=GU g S++(dh pP (g k)).map λx=>(x,v):=by simp[GU]
def amm{hs H:List ar}{g g2:ar->List ar}{F S:List (ar×Value)}(h:alq hs g F)(hp:S.Perm F)(uB:∀a∈hs,∀x∈g a,x∈H)(ha:Apart H g2)(hn:∀x∈H,(g2 x).Nodup):alq hs (Dk g g2) (GU g2 S) where
 m p:=by
  rw[ahw];constructor
  .rintro⟨q,hq,x,hx,rfl⟩;obtain⟨i,a,y,h1,h2,rfl⟩:=(h.m q).1 (hp.mem_iff.1 hq);exact⟨i,a,x,h1,xz.2 ⟨y,h2,hx⟩,rfl⟩
  rintro⟨i,a,x,h1,h2,rfl⟩;obtain⟨y,h3,h4⟩:=xz.1 h2;exact⟨(y,zI (i:Int)),hp.mem_iff.2 ((h.m _).2 ⟨i,a,y,h1,h3,rfl⟩),x,h4,rfl⟩
 n:=by
  have hk:∀q∈S,q.1∈H:=λq hq=>by
   obtain⟨i,a,y,h1,h2,rfl⟩:=(h.m q).1 (hp.mem_iff.1 hq);exact uB a (zL h1) y h2
  have e:(GU g2 S).map (·.1)=(S.map (·.1)).flatMap λx=>dh pP (g2 x):=by
   simp only[GU,List.map_flatMap,List.flatMap_map,qR,ng,List.map_id']
  rw[e];have hS:(S.map (·.1)).Nodup:=(hp.map (·.1)).nodup_iff.2 h.n;refine ah5 hS (λx hx=>?_) (λa vL b hb z h1 h2=>?_)
  .obtain⟨q,hq,rfl⟩:=bB.1 hx;exact OY (hn _ (hk q hq))
  obtain⟨q,hq,rfl⟩:=bB.1 vL;obtain⟨r,hr,rfl⟩:=bB.1 hb;exact ha _ (hk q hq) _ (hk r hr) z (ko.1 h1) (ko.1 h2)
theorem au4{H:List ar}{g2:ar->List ar}{es:Array MapEntry}{F S:List (ar×Value)}{e:MapEntry}{k x:ar}{v:Value}(h:InP es F seen S)(hF:(F.map (·.1)).Nodup)(hk:∀p∈F,p.1∈H)(he:e∈gK es seen)(hek:e.key=mh k)(hkH:k∈H)(ha:Apart H g2)(hn:(g2 k).Nodup)(hx:(dh pP (g2 k))[j]?=some x):
 jL x v (GU g2 S++((dh pP (g2 k)).take j).map λx=>(x,v))=GU g2 S++((dh pP (g2 k)).take (j+1)).map λx=>(x,v):=by
 have hxm:=ko.1 (zL hx);have hSF:∀p∈S,p∈F:=λp hp=>h.mem_iff.1 (cR _ hp);have hkS:k∉S.map (·.1):=λgV=>by
  have h2:=(h.map (·.1)).nodup_iff.2 hF;rw[cC] at h2;refine(eF.1 h2).2.2 _ gV _ ?_ rfl;rw[qR];exact bB.2 ⟨e,he,by simp[hek,T8,mh,bL]⟩
 have wP:x∉(GU g2 S++((dh pP (g2 k)).take j).map λx=>(x,v)).map (·.1):=λhm=>by
  rw[cC,bI] at hm;rcases hm with hm|hm
  .obtain⟨p,hp,rfl⟩:=bB.1 hm;obtain⟨q,hq,y,hy,rfl⟩:=ahw.1 hp;have:=ha _ (hk q (hSF q hq)) _ hkH _ hy hxm;exact hkS (this▸dR (f:=(·.1)) hq)
  simp only[qR,ng,List.map_id'] at hm;exact Bu (OY hn) hx hm
 rw[HI wP,cU hx,cC,bC];rfl
def Vh{ways:List (List aP)}{s:Nat}{l:List aP}{x y:rB}{w:List Int}(h:Walk (ways.drop s) x (w.drop s) y)(hl:ways[s]?=some l):∃(i:Nat) (c:aP),w[s]?=some (i:Int)/\l[i]?=some c/\iG x.fin c=0/\Walk (ways.drop (s+1)) (AX x i c) (w.drop (s+1)) y:=by
 obtain⟨hs,e⟩:=aB.1 hl;rw[gI hs,e] at h;obtain⟨i,c,w',h1,h2,h3,h4⟩:=h;have h5:w[s]?=some (i:Int):=by have:=qt (·[0]?) h1;simpa using this
 obtain⟨s8,_⟩:=aB.1 h5;rw[gI s8] at h1;simp only[lO] at h1;exact⟨i,c,h5,h2,h3,by rw[h1.2];exact h4⟩
def eQ.g(K:eQ)(w:List Int):ar->List ar:=match (dt K.str K.ways).find? λy=>decide (y.ways=w) with
 |some y=>y.g
 |none=>rO
theorem eQ.walk{K:eQ}{w:List Int}(h:w∈K.W):∃y,K.g w=y.g/\Walk K.ways ⟨[],K.str,rO⟩ w y:=by
 obtain⟨z,hz,rfl⟩:=bB.1 h;cases hf:(dt K.str K.ways).find? λy=>decide (y.ways=z.ways) with
 |none=>grind
 |some y=>
  obtain⟨v,hv⟩:=mem_grow.1 (List.mem_of_find?_eq_some hf);have h2:=(ED hv).1
  grind [eQ.g]
theorem awk{a x:α}(h: [a][j]?=some x):j=0/\x=a:=by grind
def bdp{W:ky}{v:Value}{K:eQ}{w:List Int}{y:rB}(hH0:ro Hb=some (.cells ⟨W.cells u⟩ 113 (0,0)))(mY:bH ro W.a0 K.str)(hT0:kL ro W.a1 K.ways)(hh0:dq ro (.slice W.ha W.H W.iR) 3 bL (aI K.str))(hC:azz K)(hw:dq ro v 1 eI w)(yw:Walk K.ways ⟨[],K.str,rO⟩ w y):eW zT 112 [zP Hb,v] ro [] (λr Y=>∃rm F,r= .map (some rm)/\iq rm mh F Y/\alq (aI K.str) y.g F):=by
 obtain⟨pW,Zf,Zd,oX,SX,Ze,Su,Ss⟩:=hh0;obtain⟨mf,ht0,jh⟩:=hT0;obtain⟨fP,we,vZ,eL,wo,v9,nE,nD⟩:=ht0;obtain⟨tI,Mq,Mp,qN,rfl,qwk,C4,C3⟩:=hw;have hH:ro Hb=some (.cells ⟨[W.a0,.slice fP mf.length eL,W.a2,W.a3,W.a4,zI W.D,zI W.S,W.a7,.slice pW ((aI K.str).length) oX,u,W.Ln]⟩ 113 (0,0)):=by rw[<-SX,<-wo];exact hH0
 have kP:(aI K.str).Nodup:=Ab hC.sV _;have hwl:=(ED yw).2;have Qz:=jh.len;have hhl:=hC.h3;have hw2:=hC.ways.two;refine zE<|zD 6<|jmk mh λr19 L19 ax3=>zD 8<|jl (b:=Hb) (off:=0) (m:=11) (vs:=[W.a0,.slice fP mf.length eL,W.a2,W.a3,W.a4,zI W.D,zI W.S,W.a7,.slice pW ((aI K.str).length) oX,u,W.Ln]) 8 ⟨_,_,_,.inl hH,rfl⟩<|zD 4<|iE [1,1,0,1,0,0] [] (λ(zz:Nat×Cells)=>[(0,zP Hb),(1,.slice tI w.length qN),(4,(.map none)),(5,(.map (some r19))),(23,.slice pW ((aI K.str).length) oX),(24,zI ((aI K.str).length:Int)),(25,zI (zz.1:Int))]) (λzz=>[.l zz.2]) (λzz=>zz.1<=(aI K.str).length/\iq r19 mh (H7 (aI K.str) zz.1) zz.2) (λzz=>(aI K.str).length-zz.1) (⟨0,L19⟩) ⟨Nat.zero_le _,ax3⟩ [0] ?_;rintro⟨k,LM⟩ hI K1 cX rest;dsimp only at hI;refine zD 5<|zJ 26 ((k:Int) <((aI K.str).length:Int)) (λh1=>?_) λh1=>?_
 ·
  refine zD 7<|zxt (aI K.str) k oX 3 Su Ss λx28 GW=>jn λb7=>jd 7 [0,0]<|XZ (kv:=mh) (F:=(H7 (aI K.str) k)) (r:=r19) (K:=41) 1 x28 (zI (k:Int)) wM hI.2 λLm2 yx=>zD 2<|zW ((k:Int)+1)<|zD 2<|zF cX (⟨k+1,Lm2⟩) (by dsimp only;rw[<-aoO kP GW];exact yx) [0]
 refine zD 9<|jl (b:=Hb) (off:=0) (m:=11) (vs:=[W.a0,.slice fP mf.length eL,W.a2,W.a3,W.a4,zI W.D,zI W.S,W.a7,.slice pW ((aI K.str).length) oX,u,W.Ln]) 0 ⟨_,_,_,.inl hH,rfl⟩<|jn λb8=>jsx 0 b8 0 [zS] [W.a0] 24 (by obtain⟨_,h,_⟩:=mY;simp[oH h]) rfl ?_;refine zD 9<|wN<|iE [1,1,1,1,0,1,0,0] [] (λ(zz:Nat×Nat×(List (ar×Value))×Cells×Value×Cells×rB)=>[(0,zP Hb),(4,(.map none)),(5,(.map (some zz.2.1))),(8,zP b8),(40,.slice tI w.length qN),(41,zI (w.length:Int)),(42,zI (zz.1:Int))]) (λ(zz:Nat×Nat×(List (ar×Value))×Cells×Value×Cells×rB)=>[zxc b8 24 [zz.2.2.2.2.1],.l zz.2.2.2.1,.l zz.2.2.2.2.2.1]) (λ(zz:Nat×Nat×(List (ar×Value))×Cells×Value×Cells×rB)=>(zz.1<=w.length)/\iq zz.2.1 mh zz.2.2.1 zz.2.2.2.1/\Walk (K.ways.drop zz.1) zz.2.2.2.2.2.2 (w.drop zz.1) y/\U2 (aI K.str) zz.1 zz.2.2.2.2.2.2/\zz.2.2.2.2.2.2.fin.length=K.str.length/\alq (aI K.str) zz.2.2.2.2.2.2.g zz.2.2.1/\∀bU,Sub ro bU->Knows bU zz.2.2.2.2.2.1->bH bU zz.2.2.2.2.1 zz.2.2.2.2.2.2.fin) (λ(zz:Nat×Nat×(List (ar×Value))×Cells×Value×Cells×rB)=>w.length-zz.1) (⟨0,r19,(H7 (aI K.str) (aI K.str).length),LM,W.a0,[],⟨[],K.str,rO⟩⟩) ⟨Nat.zero_le _,by have:=hI.2;rwa[show k=(aI K.str).length by omega] at this,yw,U2.start hC.sV hC.h3,rfl,aDG kP,λ_ h _=>mY.up h⟩ [1,2,0] ?_;rintro⟨s,rm,F,LM,vP,LP,x⟩ hJ K2 mb rest;dsimp only at hJ;refine zD 5<|zJ 43 ((s:Int) <(w.length:Int)) (λh3=>?_) λh3=>?_
 ·
  refine zD 7<|zxt w s qN 1 C4 C3 λxI sC=>zD 10<|jl (b:=Hb) (off:=0) (m:=11) (vs:=[W.a0,.slice fP mf.length eL,W.a2,W.a3,W.a4,zI W.D,zI W.S,W.a7,.slice pW ((aI K.str).length) oX,u,W.Ln]) 1 ⟨_,_,_,.inl hH,rfl⟩<|zD 1<|zxs mf s eL 1 nE λx54 aGJ=>zD 1 ?_;obtain⟨l56,ax5,h56⟩:=jh.get aGJ;obtain⟨bqO,bqN,bqL,bcp,rfl,bqM,bco,bcn⟩:=h56;refine jl 0 (nD _ _ aGJ)<|zD 1 ?_;obtain⟨yI,aGI⟩:=zG l56 (xI.toNat) (by obtain⟨i0,cc,hwx,w9,_⟩:=Vh hJ.2.2.1 ax5;have e:=sC.symm.trans hwx;simp only[aD] at e;have:=(aB.1 w9).1;omega);refine jsi xI bcp 7 bco aGI (cD (show 0<=xI/\xI <((l56).length:Int) from (by obtain⟨i0,cc,hwx,w9,_⟩:=Vh hJ.2.2.1 ax5;have e:=sC.symm.trans hwx;simp only[aD] at e;have:=(aB.1 w9).1;omega)).1).symm ?_;refine jl 0 (bcn _ _ aGI)<|jn λwE=>jd 4 [0]<|jmk mh λr60 L60 bfM=>zD 4 ?_;have R6:s<=1:=by have:=hC.ways.two;omega
  obtain⟨i0,cc,hwx,w9,aIa,bev⟩:=Vh hJ.2.2.1 ax5;have bg8:l56[i0]?=some yI:=by have e:=sC.symm.trans hwx;simp only[aD] at e;subst e;simpa using aGI
  obtain rfl:yI=cc:=Option.some.inj (bg8.symm.trans w9);have Ol:=((hC.ways.ok _ (zL ax5)).2 _ (zL w9)).fX hJ.2.2.2.2.1;have MJ:=xT (hJ.2.2.2.1.fin R6) Ol aIa;obtain⟨esM,ckM,rfl,hEM⟩:=hJ.2.1;refine jg 3 [.b rm (.map esM ckM)]<|zD 1<|jf [3,4] ((rm,.map esM ckM)::LP) (λro6 sE hk5=>?_);have hSP:=hJ.2.2.2.2.2.2 _ sE (Knows.tail hk5);refine zD 1<|jmR (hk5 _ (.head _)) λr62=>jg 0 [.b r62 (w6 rm ckM [])]<|zD 2<|iE [1,1,1,1,0,1,0,0,1,1,0,0,1,1,1,0,1,0,0] [K2] (λ(zz:(List Nat)×(List (ar×Value))×Cells)=>[(0,zP Hb),(4,(.map none)),(5,(.map (some rm))),(8,zP b8),(11,zP wE),(12,(.map (some r60))),(40,.slice tI w.length qN),(41,zI (w.length:Int)),(42,zI (s:Int)),(62,zP r62)]) (λ(zz:(List Nat)×(List (ar×Value))×Cells)=>[.b r62 (w6 rm ckM zz.1),.l zz.2.2,zxc wE 100 [zI yI.k,zI yI.st,zI yI.ot,zI yI.fn,zI yI.fl,zI yI.tn,zI yI.tl],zxc b8 24 [vP]]) (λ(zz:(List Nat)×(List (ar×Value))×Cells)=>iq r60 mh (GU (fY x.fin yI) zz.2.1) zz.2.2/\InP esM F zz.1 zz.2.1) (λ(zz:(List Nat)×(List (ar×Value))×Cells)=>(gK esM zz.1).length) (⟨[],[],L60⟩) ⟨bfM,InP.start hEM⟩ (zN 0 4) ?_;rintro⟨seen,S,LN⟩ hQ K3 FI rest;dsimp only at hQ;refine zD 2<|jmN (it:=r62) (kv:=mh) (seen:=seen) 0 (hk5 _ (.head _)) hEM (λk63 v63 e63 bgr ayg aHK aRT=>?_) (λaGx=>?_)
  ·
   obtain⟨i63,h63,z63,bet,aGx,aB3⟩:=(hJ.2.2.2.2.2.1.m _).1 bgr;simp only[Prod.mk.injEq] at aB3;obtain⟨rfl,rfl⟩:=aB3;have hkh:=hJ.2.2.2.1.inn _ (zL bet) _ aGx;refine jg 0 [.b r62 (w6 rm ckM (seen++[e63.born]))]<|zD 8<|jmE (it:=r62) 0 (hk5 _ (.head _)) hEM ayg aHK aRT<|jg 0 [.b r62 (w6 rm ckM (seen++[e63.born]))]<|zD 2<|jn λBe=>jd 8 [0,4,3,0]<|jc (vs:=[.agg ⟨[vP]⟩,.agg ⟨[zI yI.k,zI yI.st,zI yI.ot,zI yI.fn,zI yI.fl,zI yI.tn,zI yI.tl]⟩,.agg ⟨[zI k63.h,zI k63.n,zI k63.l]⟩]) [] (anr (y:=k63) Ol aIa hSP (hJ.2.2.2.1.fin R6) hkh) ?_;rintro _ Y72 ⟨ba,bn,bc,rfl,biq⟩;refine zD 8<|jf [0] Y72 (λro9 hs7 hk8=>?_);have hB:=biq _ hk8;obtain⟨qBa,qBb,qBo,qBc,hBe,qBk,qBh,qBl⟩:=hB;simp only[Value.slice.injEq] at hBe;obtain⟨rfl,rfl,rfl⟩:=hBe;refine zD 5<|iE [1,1,1,1,0,1,0,0,1,1,0,0,1,1,1,0,1,0,0,1,1,0,1,1,1,0,0] [K2,K3] (λ(zz:Nat×Cells)=>[(0,zP Hb),(4,(.map none)),(5,(.map (some rm))),(8,zP b8),(11,zP wE),(12,(.map (some r60))),(14,zI (i63:Int)),(40,.slice tI w.length qN),(41,zI (w.length:Int)),(42,zI (s:Int)),(62,zP r62),(75,.slice ba ((dh pP (fY x.fin yI k63)).length) bc),(76,zI ((dh pP (fY x.fin yI k63)).length:Int)),(77,zI (zz.1:Int))]) (λzz=>[.b r62 (w6 rm ckM (seen++[e63.born])),.l zz.2,zxc wE 100 [zI yI.k,zI yI.st,zI yI.ot,zI yI.fn,zI yI.fl,zI yI.tn,zI yI.tl],zxc b8 24 [vP]]) (λzz=>(zz.1<=(dh pP (fY x.fin yI k63)).length)/\iq r60 mh ((GU (fY x.fin yI) S)++((dh pP (fY x.fin yI k63)).take zz.1).map λz=>(z,Value.int .i64 (i63:Int))) zz.2) (λzz=>(dh pP (fY x.fin yI k63)).length-zz.1) (⟨0,LN⟩) ⟨Nat.zero_le _,by have:=hQ.1;simpa using this⟩ (zN 1 4) ?_;rintro⟨j,L3⟩ hR K4 hK4 rest;dsimp only at hR;have hbl:(dh pP (fY x.fin yI k63)).length<=2:=by rw[u9 (MJ.val _ hkh).1.1 Ih];exact(MJ.val _ hkh).1.2
   refine zD 5<|zJ 78 ((j:Int) <((dh pP (fY x.fin yI k63)).length:Int)) (λxF=>?_) λxF=>?_
   ·
    refine zD 6<|zxt (dh pP (fY x.fin yI k63)) j bc 3 qBh qBl λx79 aGD=>jn λb18=>jd 6 [0,0]<|XZ (kv:=mh) (F:=((GU (fY x.fin yI) S)++((dh pP (fY x.fin yI k63)).take j).map λz=>(z,Value.int .i64 (i63:Int)))) (r:=r60) (K:=41) 2 x79 (zI (i63:Int)) wM hR.2 λalx aeA=>zD 2<|zW ((j:Int)+1)<|zD 2<|zF hK4 (⟨j+1,alx⟩) (by have:=aeA;rw[au4 hQ.2 hJ.2.2.2.2.2.1.n (λp hp=>by obtain⟨i,h,z,h1,h2,rfl⟩:=(hJ.2.2.2.2.2.1.m p).1 hp;exact hJ.2.2.2.1.inn _ (zL h1) _ h2) ayg aHK hkh MJ.ap (MJ.val _ hkh).1.1 aGD] at this;exact this) [2,0,3,4]
   refine zD 2<|dY FI (⟨(seen++[e63.born]),(S++[(k63,Value.int .i64 (i63:Int))]),L3⟩) ⟨by dsimp only;rw[apP];have:=hR.2;rwa[List.take_of_length_le (by omega)] at this,hQ.2.step hEM ayg aHK aRT⟩ (DK ayg) (zN 0 4) hs7
  refine jg 0 [.b r62 (w6 rm ckM seen)]<|jd 9 [3,2]<|jc (vs:=[.agg ⟨[vP]⟩,.agg ⟨[zI yI.k,zI yI.st,zI yI.ot,zI yI.fn,zI yI.fl,zI yI.tn,zI yI.tl]⟩]) [] (aEQ Ol aIa hSP (hJ.2.2.2.1.fin R6)) ?_;rintro _ Y88 ⟨aa,an,ac,rfl,bir⟩;refine jd 10 [4]<|zW ((s:Int)+1)<|zD 2<|dY mb (⟨s+1,r60,(GU (fY x.fin yI) S),LN,.slice aa an ac,Y88,(AX x i0 yI)⟩) ⟨by dsimp only;omega,hQ.1,bev,hJ.2.2.2.1.next R6 MJ,by simp[AX,Fe,hJ.2.2.2.2.1],amm hJ.2.2.2.2.2.1 (hQ.2.fin aGx) hJ.2.2.2.1.inn MJ.ap (λz hz=>(MJ.val z hz).1.1),λbU _ hk=>bir bU hk⟩ (by dsimp only;omega) [4,2,0] sE
 refine zD 8<|zR _ [] [1] LM ⟨rm,F,rfl,hJ.2.1,by have h:=hJ.2.2.1;rw[LG (by omega),LG (by omega)] at h;rw[h.2];exact hJ.2.2.2.2.2.1⟩
theorem awU{b lo hi:Nat}{T:TypeId}{x:cy}(h:ro b=some (.cells ⟨jF x⟩ T (0,0)))(hl:lo<=hi)(hh:hi<=4)(h4:lo <4):dq ro (.slice (some ⟨b,0+lo*1,none⟩) (hi-lo) (4-lo)) 1 eI (((kE x).take hi).drop lo):=by
 have h0:=fK (enc:=eI) (kE x) h (λ_ _=>rfl);have:=dq.part h0 hl (hh)
 grind [lo,Addr.add,kE]
def rP(q:eT->Bool)(es:List eT):Nat->Int
 |0=>0
 |k+1=>match es[k]? with
  |some x=>bif q x then iOr .u8 (rP q es k) (iA .u8 1 (k:Int)) else rP q es k
  |none=>0
theorem ZV{q:eT->Bool}{es:List eT}{k:Nat}{x:eT}(h:es[k]?=some x) (hq:q x=true):rP q es (k+1)=iOr .u8 (rP q es k) (iA .u8 1 (k:Int)):=by simp_all[rP,cH]
theorem ZW{q:eT->Bool}{es:List eT}{k:Nat}{x:eT}(h:es[k]?=some x) (hq:q x=false):rP q es (k+1)=rP q es k:=by simp_all[rP,fJ]
def inB(y:cy)(x:eT)(h:Int):Bool:=decide (bM (λz=>decide (h=z)) (((kE y).take (x.high+1).toNat).drop x.low.toNat) 0>=0)
def tS(nm:Int)(hm:eT->Int)(y:cy)(es:List eT):Nat->Int
 |0=>0
 |k+1=>match es[k]? with
  |some x=>bif iv nm (k:Int)&& !decide (hm x= -1)&&inB y x (hm x) then iOr .u8 (tS nm hm y es k) (iA .u8 1 (k:Int)) else tS nm hm y es k
  |none=>0
theorem ag8{hm:eT->Int}{y:cy}{es:List eT}{k:Nat}{x:eT}(h:es[k]?=some x) (hq:(iv nm (k:Int)&& !decide (hm x= -1)&&inB y x (hm x))=true):tS nm hm y es (k+1)=iOr .u8 (tS nm hm y es k) (iA .u8 1 (k:Int)):=by simp_all[tS,cH]
theorem Ob{hm:eT->Int}{y:cy}{es:List eT}{k:Nat}{x:eT}(h:es[k]?=some x) (hq:(iv nm (k:Int)&& !decide (hm x= -1)&&inB y x (hm x))=false):tS nm hm y es (k+1)=tS nm hm y es k:=by simp only[tS,h,hq,fJ]
def aac(f:cy->Int)(ls:List cy)(k:Nat):List (cy×Value):=(ls.take k).foldl (λF y=>jL y (.int .u8 (f y)) F) []
theorem TZ{f:cy->Int}{ls:List cy}{k:Nat}{y:cy}(h:ls[k]?=some y):aac f ls (k+1)=jL y (.int .u8 (f y)) (aac f ls k):=by
 grind [aac,List.take_add_one]
theorem ayN[DecidableEq κ]{k:κ}{v:Value}{F:List (κ×Value)}:∃j,tV k (jL k v F) 0=some (j,v):=by
 unfold jL;split
 .rename_i i u hf;have:=abl (v:=v) hf
  grind
 simp_all[IA]
theorem QS[DecidableEq κ]{k k':κ}{v:Value}(h:k≠k'):∀ {F:List (κ×Value)} {i:Nat},(tV k (F++[(k',v)]) i).map (·.2)=(tV k F i).map (·.2)
 | [],i=>by grind [tV]
 |x::F,i=>by
  simp only[eg,tV];split
  .rfl
  exact QS h
theorem QQ[DecidableEq κ]{k k':κ}{v:Value}(h:k≠k'):∀ {F:List (κ×Value)} {i j:Nat},F[j]?=some (k',u)->(tV k (yA k' v F j) i).map (·.2)=(tV k F i).map (·.2)
 | [],_,_,hj=>by rfl
 |x::F,i,0,hj=>by grind [yA,tV]
 |x::F,i,j+1,hj=>by
  simp only[yA,tV];split
  .rfl
  exact QQ h hj
theorem ajP[DecidableEq κ]{k k':κ}{v:Value}{F:List (κ×Value)}(h:k≠k'):lkM k (jL k' v F)=lkM k F:=by
 unfold jL;split
 .rename_i i u hf;have:=(th hf).2;exact QQ h this
 exact QS h
def T3{f:cy->Int}{ls:List cy}:∀ {k:Nat},k<=ls.length->∀y∈ls.take k,RV (.int .u8 0) false y (aac f ls k)= .int .u8 (f y)
 |0,_,y,hy=>by simp at hy
 |k+1,hk,y,hy=>by
  have hx:=af (show k <ls.length by omega);rw[TZ hx];by_cases e:y=ls[k]
  .subst e;obtain⟨j,hj⟩:=ayN (k:=ls[k]) (v:=Value.int .u8 (f ls[k])) (F:=aac f ls k);simp only[RV,lkM,hj];rfl
  rw[List.take_add_one,hx,bI] at hy;have hy2:y∈ls.take k:=hy.elim id λh=>by simp at h;exact absurd h e
  have:=T3 (f:=f) (show k<=ls.length by omega) y hy2;simp only[RV,ajP e];exact this
def RI(Z:Cells)(x:eH)(n:Nat)(ls:List cy)(mk:Nat->cy->Int):Prop:=∀j,j <n->∃r es ck F,x.m j= .map (some r)/\(r,Obj.map es ck)∈Z/\yH kvL F es ck/\∀y∈ls,RV (.int .u8 0) false y F= .int .u8 (mk j y)
def eH.qe(x:eH)(k:Nat)(v:Value):eH:=match k with
 |0=>{x with m0:=v}
 |1=>{x with m1:=v}
 |_=>{x with m2:=v}
theorem aok{x:eH}{k:Nat}{v:Value}(hk:k <3):gZ (Bb x) (1+(k:Int).toNat*1) [v]=Bb (x.qe k v):=by
 rcases lt3 hk with rfl|rfl|rfl<;>rfl
def aol{x:eH}{k:Nat}(hk:k <3):Nat.ble ((1+(k:Int).toNat*1)+1) (Bb x).length=true:=by
 rcases lt3 hk with rfl|rfl|rfl<;>rfl
theorem VM{x:eH}{k:Nat}{v:Value}(hk:k <3):(x.qe k v).m j=if j=k then v else if j <3 then x.m j else (x.qe k v).m j:=by
 rcases lt3 hk with rfl|rfl|rfl<;>rcases j with _|_|_|j<;>simp[eH.qe,eH.m]<;>omega
def an4{x:eH}{k:Nat}{v:Value}:(x.qe k v).w=x.w:=by
 rcases k with _|_|k<;>rfl
def RI.snoc{Z L:Cells}{x:eH}{n r:Nat}{ls:List cy}{mk:Nat->cy->Int}{F:List (cy×Value)}(hn:n <3)(h:RI Z x n ls mk)(hm:iq r kvL F L)(hF:∀y∈ls,RV (.int .u8 0) false y F= .int .u8 (mk n y)):RI (L++Z) (x.qe n (.map (some r))) (n+1) ls mk:=by
 intro j hj;obtain⟨es,ck,rfl,hE⟩:=hm;by_cases e:j=n
 .subst e;exact⟨r,es,ck,F,by rw[VM hn,dW rfl],by simp,hE,hF⟩
 obtain⟨r',iN,ck',F',h1,h2,h3,h4⟩:=h j (by omega);exact⟨r',iN,ck',F',by rw[VM hn,cJ e,dW (by omega)];exact h1,by simp[h2],h3,h4⟩
def qF(K:eQ)(s:ByteArray)(x:eT):Bool:= !decide (HG K.rules x.name s=2)
def Ko(hs:List ar)(wi:ar->Int)(wb:ar->Bool)(x:eT):Int:=GY hs x (wi ⟨x.st,x.no,x.lt⟩) (wb ⟨x.st,x.no,x.lt⟩)
def mkG(K:eQ)(hs:List ar)(wi:ar->Int)(wb:ar->Bool)(j:Nat)(y:cy):Int:=match K.aU[j]? with
 |some s=>tS (rP (qF K s) K.bO K.bO.length) (Ko hs wi wb) y K.bO K.bO.length
 |none=>0
theorem ao5{K:eQ}{hs:List ar}{wi:ar->Int}{wb:ar->Bool}{y:cy}{s:ByteArray}(h:K.aU[j]?=some s):mkG K hs wi wb j y=tS (rP (qF K s) K.bO K.bO.length) (Ko hs wi wb) y K.bO K.bO.length:=by grind [mkG]
def auj(K:eQ):Prop:=∀x∈K.bO,0<=x.low/\x.low<=x.high/\x.high<=3
def an5{x:eH}{k:Nat}{r:Option Nat}(hk:k <3)(h:∀j,∃o,x.m j=Value.map o):∀j,∃o,(x.qe k (.map r)).m j=Value.map o:=by
 intro j;have h0:=h 0;have h1:=h 1;have h2:=h 2;rcases lt3 hk with rfl|rfl|rfl<;>rcases j with _|_|j<;>simp_all[eH.qe,eH.m]
def aQO{pb rw:Nat}{W:ky}{o0 o1 o2:Option Nat}{K:eQ}{ls:List cy}{Hs:List ar}{es:Array MapEntry}{F:List (ar×Value)}{wi:ar->Int}{wb:ar->Bool}(hH0:ro Hb=some (.cells ⟨W.cells u⟩ 113 (0,0)))(C9:dq ro W.a3 1 nU K.aU)(Ae:dq ro W.a4 2 jT K.rules)(he0:dq ro W.a7 7 tv K.bO)(hl0:dq ro u 4 jF ls)(hh0:dq ro (.slice W.ha W.H W.iR) 3 bL Hs)(hC:azz K)(hOK:auj K)(FC:ls.length<=5000)(hnh:Hs.length<=1000)(xE:K.aU.length<=3)(hel:K.bO.length<=5)(hr:ro rw=some (.map es ck))(hE:yH mh F es ck)(X7:∀y:ar,RV (zI 0) true y F= .tuple ⟨[zI (wi y),.bool (wb y)]⟩):eW zT 113 [zP Hb,zP pb] ro [(pb,.cells ⟨[.map (some rw),.map o0,.map o1,.map o2]⟩ 142 (0,0))] (λr Y=>∃(x:eH) (Z:Cells),r= .tuple ⟨[]⟩/\(x.w= .map (some rw)/\∀j,∃o,x.m j= .map o)/\RI Z x K.aU.length ls (mkG K Hs wi wb)/\Y=(pb,.cells ⟨Bb x⟩ 142 (0,0))::Z):=by
 obtain⟨iD,zr,zo,g9,CL,CE,zq,zp⟩:=C9;obtain⟨iu,zu,zt,ia,Bo,Je,yu,yt⟩:=he0;obtain⟨fQ,rK,rJ,fg,hle,tJ,nj,nY⟩:=hl0;have hH:ro Hb=some (.cells ⟨[W.a0,W.a1,W.a2,.slice iD K.aU.length g9,W.a4,zI W.D,zI W.S,.slice iu K.bO.length ia,(.slice W.ha W.H W.iR),.slice fQ ls.length fg,W.Ln]⟩ 113 (0,0)):=by rw[<-CL,<-Bo,<-hle];exact hH0
 refine zC [zxc pb 142 [(.map (some rw)),(.map o0),(.map o1),(.map o2)]]<|zD 6<|jl (b:=Hb) (off:=0) (m:=11) (vs:=[W.a0,W.a1,W.a2,.slice iD K.aU.length g9,W.a4,zI W.D,zI W.S,.slice iu K.bO.length ia,(.slice W.ha W.H W.iR),.slice fQ ls.length fg,W.Ln]) 3 ⟨_,_,_,.inl hH,rfl⟩<|zD 4<|wN<|iE [1,0,0] [] (λ(zz:Nat×eH×Cells)=>[(0,zP Hb),(1,zP pb),(21,.slice iD K.aU.length g9),(22,zI (K.aU.length:Int)),(23,zI (zz.1:Int))]) (λzz=>[zxc pb 142 [zz.2.1.w,zz.2.1.m0,zz.2.1.m1,zz.2.1.m2],.l zz.2.2]) (λzz=>zz.1<=K.aU.length/\(zz.2.1.w= .map (some rw)/\∀j,∃o,zz.2.1.m j= .map o)/\RI zz.2.2 zz.2.1 zz.1 ls (mkG K Hs wi wb)) (λzz=>K.aU.length-zz.1) (⟨0,⟨.map (some rw),.map o0,.map o1,.map o2⟩,[]⟩) ⟨Nat.zero_le _,⟨rfl,λj=>by rcases j with _|_|j<;>exact⟨_,rfl⟩⟩,λ_ h=>absurd h (Nat.not_lt_zero _)⟩ [1,0] ?_;rintro⟨k,x,Z⟩ hI K1 cX rest;dsimp only at hI;refine zD 5<|zJ 24 ((k:Int) <(K.aU.length:Int)) (λh1=>?_) λh1=>?_
 ·
  refine zD 7<|zxt K.aU k g9 1 zq zp λx26 Nv=>zD 7<|jmk kvL λAI L30 ako=>zD 2<|Jg (b:=pb) (off:=1) (len:=3) (sz:=1) (k:Int) (by omega)<|jsx 1 pb (1+(k:Int).toNat*1) [x.w,x.m0,x.m1,x.m2] [(.map (some AI))] 142 (by intro v hv;rw[List.mem_singleton] at hv;subst hv;rfl) (aol (x:=x) (by omega)) ?_;refine jmw 0 [zxc pb 142 [(x.qe k (.map (some AI))).w,(x.qe k (.map (some AI))).m0,(x.qe k (.map (some AI))).m1,(x.qe k (.map (some AI))).m2]] (L:=[(pb,.cells ⟨gZ [x.w,x.m0,x.m1,x.m2] (1+(k:Int).toNat*1) [(.map (some AI))]⟩ 142 (0,0))]) (by show [(pb,Obj.cells ⟨gZ (Bb x) (1+(k:Int).toNat*1) [.map (some AI)]⟩ 142 (0,0))]=_;rw[aok (by omega)];rfl) ?_;refine zD 12<|jl (b:=Hb) (off:=0) (m:=11) (vs:=[W.a0,W.a1,W.a2,.slice iD K.aU.length g9,W.a4,zI W.D,zI W.S,.slice iu K.bO.length ia,(.slice W.ha W.H W.iR),.slice fQ ls.length fg,W.Ln]) 7 ⟨_,_,_,.inl hH,rfl⟩<|zD 4<|iE [1,0,0,1,1,0,0,1,1,1,0,1,0,0] [K1] (λ(zz:Nat×Int)=>[(0,zP Hb),(1,zP pb),(4,zI (k:Int)),(5,.string x26),(6,.int .u8 zz.2),(21,.slice iD K.aU.length g9),(22,zI (K.aU.length:Int)),(23,zI (k:Int)),(38,.slice iu K.bO.length ia),(39,zI (K.bO.length:Int)),(40,zI (zz.1:Int))]) (λzz=>[zxc pb 142 [(x.qe k (.map (some AI))).w,(x.qe k (.map (some AI))).m0,(x.qe k (.map (some AI))).m1,(x.qe k (.map (some AI))).m2],.l L30,.l Z]) (λzz=>zz.1<=K.bO.length/\zz.2=rP (qF K x26) K.bO zz.1) (λzz=>K.bO.length-zz.1) (⟨0,0⟩) ⟨Nat.zero_le _,rfl⟩ [0,1,2] ?_;rintro⟨j,n⟩ hJ K2 mb rest;dsimp only at hJ;refine zD 5<|zJ 41 ((j:Int) <(K.bO.length:Int)) (λh2=>?_) λh2=>?_
  ·
   refine zD 7<|zxt K.bO j ia 7 yu yt λx43 apU=>jn λb8=>jd 9 [0]<|jl (b:=Hb) (off:=0) (m:=11) (vs:=[W.a0,W.a1,W.a2,.slice iD K.aU.length g9,W.a4,zI W.D,zI W.S,.slice iu K.bO.length ia,(.slice W.ha W.H W.iR),.slice fQ ls.length fg,W.Ln]) 4 ⟨_,_,_,.inl hH,rfl⟩<|jd 3 [0]<|zxp [W.a4,.string x43.name,.string x26] (λhs=>ZX (Ae.up hs) hC.rules.2 hC.rules.1 (hC.bO.2 _ (zL apU)) (hC.aU.2 _ (zL Nv)))<|zD 11<|js 58 (!decide ((HG K.rules x43.name x26)=2)) (λh3=>?_) (λh3=>?_)
   ·
    replace h3:=of_decide_eq_false (by simpa using h3);refine zD 4<|jsh (k:= .u8) (k':= .i64) (a:=1) (b:=(j:Int)) 137 (by omega)<|zD 4<|zW ((j:Int)+1)<|zD 2<|zF mb (⟨j+1,(iOr .u8 n (iA .u8 1 (j:Int)))⟩) (by dsimp only;rw[hJ.2];exact(ZV apU (by simp only[qF];first|rw[decide_eq_false (by assumption)];rfl|rw[decide_eq_true (by assumption)];rfl)).symm) [1,2,3]
   replace h3:=of_decide_eq_true (by simpa using h3);refine zD 3<|zW ((j:Int)+1)<|zD 2<|zF mb (⟨j+1,n⟩) (by dsimp only;rw[hJ.2];exact(ZW apU (by simp only[qF];first|rw[decide_eq_false (by assumption)];rfl|rw[decide_eq_true (by assumption)];rfl)).symm) [1,2,3]
  refine zD 3 ?_;have hn:n=rP (qF K x26) K.bO K.bO.length:=by rw[hJ.2,show j=K.bO.length by omega]
  refine zD 4<|jl (b:=Hb) (off:=0) (m:=11) (vs:=[W.a0,W.a1,W.a2,.slice iD K.aU.length g9,W.a4,zI W.D,zI W.S,.slice iu K.bO.length ia,(.slice W.ha W.H W.iR),.slice fQ ls.length fg,W.Ln]) 9 ⟨_,_,_,.inl hH,rfl⟩<|zD 4<|iE [1,0,0,1,1,0,0,1,1,1,1,1,0,0] [K1] (λ(zz:Nat×Cells)=>[(0,zP Hb),(1,zP pb),(4,zI (k:Int)),(6,.int .u8 n),(21,.slice iD K.aU.length g9),(22,zI (K.aU.length:Int)),(23,zI (k:Int)),(67,.slice fQ ls.length fg),(68,zI (ls.length:Int)),(69,zI (zz.1:Int))]) (λzz=>[.l zz.2,zxc pb 142 [(x.qe k (.map (some AI))).w,(x.qe k (.map (some AI))).m0,(x.qe k (.map (some AI))).m1,(x.qe k (.map (some AI))).m2],.l Z]) (λzz=>zz.1<=ls.length/\iq AI kvL (aac (λy=>tS n (Ko Hs wi wb) y K.bO K.bO.length) ls zz.1) zz.2) (λzz=>ls.length-zz.1) (⟨0,L30⟩) ⟨Nat.zero_le _,ako⟩ [1,0,2] ?_;rintro⟨m,LF⟩ hQ K3 FI rest;dsimp only at hQ;refine zD 5<|zJ 70 ((m:Int) <(ls.length:Int)) (λh4=>?_) λh4=>?_
  ·
   refine zD 6<|zxt ls m fg 4 nj nY λVa aGF=>jn λHv=>jd 13 [0]<|jl (b:=Hb) (off:=0) (m:=11) (vs:=[W.a0,W.a1,W.a2,.slice iD K.aU.length g9,W.a4,zI W.D,zI W.S,.slice iu K.bO.length ia,(.slice W.ha W.H W.iR),.slice fQ ls.length fg,W.Ln]) 7 ⟨_,_,_,.inl hH,rfl⟩<|zD 4<|iE [1,0,0,1,1,0,0,1,1,1,1,1,0,0,1,1,0,0,1,1,0,1,0,0] [K1,K3] (λ(zz:Nat×Int)=>[(0,zP Hb),(1,zP pb),(4,zI (k:Int)),(6,.int .u8 n),(12,zP Hv),(13,.int .u8 zz.2),(21,.slice iD K.aU.length g9),(22,zI (K.aU.length:Int)),(23,zI (k:Int)),(67,.slice fQ ls.length fg),(68,zI (ls.length:Int)),(69,zI (m:Int)),(77,.slice iu K.bO.length ia),(78,zI (K.bO.length:Int)),(79,zI (zz.1:Int))]) (λzz=>[zxc Hv 120 [zI Va.a,zI Va.b,zI Va.c,zI Va.d],.l LF,zxc pb 142 [(x.qe k (.map (some AI))).w,(x.qe k (.map (some AI))).m0,(x.qe k (.map (some AI))).m1,(x.qe k (.map (some AI))).m2],.l Z]) (λzz=>zz.1<=K.bO.length/\zz.2=tS n (Ko Hs wi wb) Va K.bO zz.1) (λzz=>K.bO.length-zz.1) (⟨0,0⟩) ⟨Nat.zero_le _,rfl⟩ (zN 0 4) ?_;rintro⟨e,d⟩ hR K4 hK4 rest;dsimp only at hR;refine zD 5<|zJ 80 ((e:Int) <(K.bO.length:Int)) (λh5=>?_) λh5=>?_
   ·
    refine zD 7<|zxt K.bO e ia 7 yu yt λBr aem=>jn λxH=>jd 10 [0,3,0]<|zxp [zP Hb,.agg ⟨[(x.qe k (.map (some AI))).w,(x.qe k (.map (some AI))).m0,(x.qe k (.map (some AI))).m1,(x.qe k (.map (some AI))).m2]⟩,.agg ⟨[.string Br.name,zI Br.st,zI Br.no,zI Br.lt,.bool Br.late,zI Br.low,zI Br.high]⟩] (λhs=>(by rw[show (x.qe k (.map (some AI))).w=Value.map (some rw) from an4.trans hI.2.1.1];exact aF4 (hs _ _ hH0) (hh0.up hs) hnh (hs _ _ hr) hE (X7 _))) ?_;refine zD 3 ?_;have hox:=hOK _ (zL aem);refine zD 3<|jsr (k:= .u8) (k':= .i64) (a:=n) (b:=(e:Int)) 137 (by omega)<|zD 3<|js 95 (decide ((aj5 .u8 (mV .u8 n (e:Int)) 1)=1)) (λh6=>?_) (λh6=>?_)
    ·
     have G5:=h6;replace G5:=ai G5;refine zD 4<|js 99 (!decide (((Ko Hs wi wb) Br)=(-1))) (λh7=>?_) (λh7=>?_)
     ·
      have h7g:=h7;replace h7g:=ah (by simpa using h7g);refine jd 4 [0,0]<|zW (Br.high+1)<|bd2 (b:=Hv) (off:=0) (len:=4) (sz:=1) Br.low (Br.high+1) (by omega)<|zD 1<|jp (vs:=[(.slice (some ⟨Hv,0+Br.low.toNat*1,none⟩) ((Br.high+1).toNat-Br.low.toNat) (4-Br.low.toNat)),zI ((Ko Hs wi wb) Br)]) [1] [(Hv,.cells ⟨[zI Va.a,zI Va.b,zI Va.c,zI Va.d]⟩ 120 (0,0))] (λcK hs hZ=>(show iz _ _ _ _ (.bool (inB Va Br ((Ko Hs wi wb) Br))) from bed (awU hZ.head (by omega) (by omega) (by omega)) (by simp only[rq,cw,kE,aK,aT];omega))) ?_;refine zD 2<|js 108 (inB Va Br ((Ko Hs wi wb) Br)) (λh8=>?_) (λh8=>?_)
      ·
       refine zD 4<|jsh (k:= .u8) (k':= .i64) (a:=1) (b:=(e:Int)) 137 (by omega)<|zD 4<|zW ((e:Int)+1)<|zD 2 ?_;have hq:(iv n (e:Int)&& !decide ((Ko Hs wi wb) Br= -1)&&inB Va Br ((Ko Hs wi wb) Br))=true:=by rw[show iv n (e:Int)=true from cb (by assumption),show decide ((Ko Hs wi wb) Br= -1)=false from cG (by omega),show inB Va Br ((Ko Hs wi wb) Br)=true from by assumption];rfl
       exact zF hK4 (⟨e+1,(iOr .u8 d (iA .u8 1 (e:Int)))⟩) (by dsimp only;rw[hR.2];exact(ag8 aem hq).symm) [1,2,3,4]
      refine zD 3<|zW ((e:Int)+1)<|zD 2 ?_;have hq:(iv n (e:Int)&& !decide ((Ko Hs wi wb) Br= -1)&&inB Va Br ((Ko Hs wi wb) Br))=false:=by rw[show iv n (e:Int)=true from cb (by assumption),show decide ((Ko Hs wi wb) Br= -1)=false from cG (by omega),show inB Va Br ((Ko Hs wi wb) Br)=false from by assumption];rfl
      exact zF hK4 (⟨e+1,d⟩) (by dsimp only;rw[hR.2];exact(Ob aem hq).symm) [1,2,3,4]
     have h7g:=h7;replace h7g:=ai (by simpa using h7g);refine zD 13<|zW ((e:Int)+1)<|zD 2 ?_;have hq:(iv n (e:Int)&& !decide ((Ko Hs wi wb) Br= -1)&&inB Va Br ((Ko Hs wi wb) Br))=false:=by rw[show iv n (e:Int)=true from cb (by assumption),show decide ((Ko Hs wi wb) Br= -1)=true from cb (by omega)];rfl
     exact zF hK4 (⟨e+1,d⟩) (by dsimp only;rw[hR.2];exact(Ob aem hq).symm) [1,2,3,4]
    have G5:=h6;replace G5:=ah G5;refine zD 17<|zW ((e:Int)+1)<|zD 2 ?_;have hq:(iv n (e:Int)&& !decide ((Ko Hs wi wb) Br= -1)&&inB Va Br ((Ko Hs wi wb) Br))=false:=by rw[show iv n (e:Int)=false from cG (by assumption)];rfl
    exact zF hK4 (⟨e+1,d⟩) (by dsimp only;rw[hR.2];exact(Ob aem hq).symm) [1,2,3,4]
   refine zD 7<|Jg (b:=pb) (off:=1) (len:=3) (sz:=1) (k:Int) (by omega)<|zx (b:=pb) (off:=1+(k:Int).toNat*1) (m:=1) (vs:=[(.map (some AI))]) 0 [2] [(pb,.cells ⟨[(x.qe k (.map (some AI))).w,(x.qe k (.map (some AI))).m0,(x.qe k (.map (some AI))).m1,(x.qe k (.map (some AI))).m2]⟩ 142 (0,0))] (λs _ hZ=>lR (hZ _ (.head _)) (show nth (Bb (x.qe k (.map (some AI)))) (1+(k:Int).toNat*1)=some (.map (some AI)) by rw[PJ (by omega),VM (by omega),if_pos rfl]))<|jd 2 [0]<|zxo 8 λCU=>XZ (kv:=kvL) (F:=(aac (λy=>tS n (Ko Hs wi wb) y K.bO K.bO.length) ls m)) (r:=AI) (K:=120) 1 (Va:cy) (.int .u8 d) ahk hQ.2 λbjN bfS=>kV CU<|zD 2<|zW ((m:Int)+1)<|zD 2<|zF FI (⟨m+1,bjN⟩) (by dsimp only;rw[TZ aGF,show tS n (Ko Hs wi wb) Va K.bO K.bO.length=d by rw[hR.2,show e=K.bO.length by omega]];exact bfS) [0,2,3]
  refine zD 3<|zW ((k:Int)+1)<|zD 2<|zV cX (⟨k+1,(x.qe k (.map (some AI))),LF++Z⟩) ⟨by dsimp only;omega,⟨an4.trans hI.2.1.1,an5 (by omega) hI.2.1.2⟩,hI.2.2.snoc (by omega) hQ.2 λy hy=>by rw[ao5 Nv,<-hn];exact T3 (f:=(λy=>tS n (Ko Hs wi wb) y K.bO K.bO.length)) (show m<=ls.length by omega) y (by rw[List.take_of_length_le (by omega)];exact hy)⟩ [[1],[0,2]]
 refine zD 2<|zR _ [] [0,1] _ ⟨x,Z,rfl,hI.2.1,by rw[show K.aU.length=k by omega];exact hI.2.2,rfl⟩
def eQ.inn(K:eQ):ky:=⟨zI 0,zI 0,zI 0,zI 0,zI 0,zI 0,zI 0,K.days,K.stay,none,K.hs.length,0⟩
def GJ(K:eQ):List cy:=BO K.inn
def wZ(K:eQ)(i j:Nat)(y:cy):Int:=match K.W[i]? with
 |some w=>mkG K K.hs (Si K.hs (K.g w)) (λx=>decide (HE K.hs (K.g w) x>=0)) j y
 |none=>0
theorem ao4{K:eQ}{i:Nat}{w:List Int}(h:K.W[i]?=some w):wZ K i=mkG K K.hs (Si K.hs (K.g w)) λx=>decide (HE K.hs (K.g w) x>=0):=by grind [wZ]
def mg(K:eQ)(need:Int):List cv:=j9 K.days (GJ K) (wZ K) K.aU.length K.W.length need
structure wF(K:eQ):Prop where
 c:azz K
 e:agR K=0
 n:(mg K (allM K.bO.length)).length<=1000000
theorem wF.h3{K:eQ}(h:wF K):K.hs.length<=3:=h.c.h3
def wF.days{K:eQ}(h:wF K):1<=K.days/\K.days<=4:=(DD h.e).2.2.2.1.1
theorem wF.bO{K:eQ}(h:wF K):K.bO.length<=5:=(DD h.e).2.2.2.2.1
theorem wF.Nr{K:eQ}(h:wF K):1<=K.aU.length/\K.aU.length<=3:=agK (DD h.e).1
theorem abx{f:eT->Int}:∀ {l:List eT},Ea f l=0->∀x∈l,f x=0
 | [],_,_,h=>by grind
 |y::l,h,x,hx=>by
  by_cases h0:f y=0
  .simp only[Ea,cb h0] at h;rcases aS.1 hx with rfl|hx
   .grind
   exact abx h x hx
  grind [Ea,cG,absurd]
theorem abB{x:eT}(h:gE D x=0):0<=x.low/\x.low<=x.high/\x.high<=D-1:=by
 grind [gE,pF,cb,absurd]
def ay1{ns:Nat}{hs:List ar}{x:eT}(h:Go.L.jk ns hs D x=0):0<=x.low/\x.low<=x.high/\x.high<=D-1:=by
 unfold Go.L.jk at h;cases hl:x.late with
 |true=>
  rw[hl] at h;cases h1: !pF x.st 0 ((ns:Int)-1) with
  |true=>rw[h1] at h;simp at h
  |false=>
   rw[h1] at h;cases h2:(!pF x.no 1 40|| !pF x.lt 0 4) with
   |true=>rw[h2] at h;simp at h
   |false=>rw[h2] at h;exact abB h
 |false=>
  rw[hl] at h;cases h1: !decide (bM (qK x.st x.no x.lt) hs 0>=0) with
  |true=>rw[h1] at h;simp at h
  |false=>rw[h1] at h;exact abB h
def wF.eok{K:eQ}(h:wF K):auj K:=λx hx=>by
 have h1:=ay1 (abx (DD h.e).2.2.2.2.2 x hx);have:=h.days;omega
structure Bi(ro:Nat->Option Obj)(Hb:Nat)(K:eQ)(W:ky)(u:Value)(ls:List cy)(ps:List eH):Prop where
 r:C1 ro Hb W u K.aU.length K.bO.length ls ps (wZ K)
 d:W.D=K.days
 l:yl ro [W.a0,W.a1,W.a2,W.a3,W.a4,zI W.D,zI W.S,W.a7] K
 hh:dq ro (.slice W.ha W.H W.iR) 3 bL K.hs
 hl:W.H=K.hs.length
 p:ls.Perm (GJ K)
 n:ps.length=K.W.length
def Bi.up{bU:Nat->Option Obj}{K:eQ}{W:ky}{ls:List cy}{ps:List eH}(h:Bi ro Hb K W u ls ps)(hs:Sub ro bU):Bi bU Hb K W u ls ps:=
 ⟨h.r.up hs,h.d,h.l.up hs,h.hh.up hs,h.hl,h.p,h.n⟩
def Bi.Sm{K:eQ}{W:ky}{ls:List cy}{ps:List eH}(h:Bi ro Hb K W u ls ps)(need:Int):(j9 W.D ls (wZ K) K.aU.length ps.length need).Perm (mg K need):=by
 rw[h.d,h.n];exact aiQ h.p
theorem ad1{W:ky}(hD:1<=W.D/\W.D<=4)(hH:W.H<=3):(BO W).length<=256:=by
 have e2:=yZ (l:=mW 0 (W.H+1)) λh _=>Vd hD hH h
 grind [GZ,BO]
def PsP(Z:Cells)(ps:List eH)(ls:List cy)(K:eQ):Prop:=∀i x,ps[i]?=some x->RI Z x K.aU.length ls (wZ K i)
def PsP.snoc{Z Z2:Cells}{ps:List eH}{ls:List cy}{K:eQ}{x:eH}(h:PsP Z ps ls K)(hx:RI Z2 x K.aU.length ls (wZ K ps.length)):PsP (Z2++Z) (ps++[x]) ls K:=by
 intro i y hy j hj;rw[List.getElem?_append] at hy;split at hy
 .obtain⟨r,es,ck,F,h1,h2,h3⟩:=h i y hy j hj;exact⟨r,es,ck,F,h1,gv _ h2,h3⟩
 rename_i hi;obtain⟨R3,e⟩:=awk hy;have hii:i=ps.length:=by omega
 subst hii;subst e;obtain⟨r,es,ck,F,h1,h2,h3⟩:=hx j hj;exact⟨r,es,ck,F,h1,cR _ h2,h3⟩
def Zv{x:eH}{o:Option Nat}(hw:x.w= .map o)(hm:∀j,∃o,x.m j=Value.map o):∀p∈[(⟨x.w,x.m0,x.m1,x.m2⟩:eH)],∀c∈Bb p,single c=true:=by
 intro p hp;rw[aV] at hp;obtain⟨a,ha⟩:=hm 0;obtain⟨b,hb⟩:=hm 1;obtain⟨c,hc⟩:=hm 2;simp only[eH.m] at ha hb hc;simp_all;exact aG rfl
def aea{K:eQ}(hK:yl ro l K)(hV:wF K):azA zT 77 [.agg ⟨l⟩] ro [] (λr cK Y=>∃Hb W u ls ps,r= .tuple ⟨[zP Hb,zI 0]⟩/\Bi cK Hb K W u ls ps/\Y=[]):=by
 have hK0:=hK;obtain⟨vS,vT,vP,vR,vE,fa,fc,rfl,hS,hT,hp,hr,he⟩:=hK;have C9:=hp;have he0:=he;have Ae:=hr;obtain⟨iD,zr,zo,g9,rfl,CE,zq,zp⟩:=hp;obtain⟨iu,zu,zt,ia,rfl,Je,yu,yt⟩:=he;have kP:(aI K.str).Nodup:=Ab hV.c.sV _;have Qz:=rE (S:=K.str) hV.c.ways;have hWl:K.W.length<=4:=by simp only[eQ.W,dj];exact Qz
 refine aBr (hm:=bE) [] [] c9 λfr=>zD 2<|jn λb1=>jd 6 [0]<|jc (vs:=[.agg ⟨[vS,vT,.slice fa 0 fc,.slice iD K.aU.length g9,vR,zI K.days,zI K.stay,.slice iu K.bO.length ia]⟩]) [] (aQM hK0 hV.c hV.e) ?_;rintro _ _ ⟨Hb,ha,hc,LH,wa,wn,wc,Lw,rfl,rfl,hoH,hwn,hWW⟩;refine jg 0 [zxc Hb 113 [vS,vT,.slice fa 0 fc,.slice iD K.aU.length g9,vR,zI K.days,zI K.stay,.slice iu K.bO.length ia,(.slice ha (aI K.str).length hc),zS,zS],.l LH,.l Lw]<|zD 19<|jcC (vs:=[zP Hb]) [0] (λ_ _ h=>h) (apG (Hb:=Hb) (W:=⟨vS,vT,.slice fa 0 fc,.slice iD K.aU.length g9,vR,.slice iu K.bO.length ia,zS,K.days,K.stay,ha,(aI K.str).length,hc⟩) hV.days hV.h3) ?_;rintro _ _ ⟨rfl,ls,u,X,hls,hoL,rfl⟩;obtain⟨ua,uc,hue⟩:=hoL.form;subst hue;have FC:ls.length<=256:=by rw[hls.length_eq];exact ad1 hV.days hV.h3
 refine jg 0 [zxc Hb 113 [vS,vT,.slice fa 0 fc,.slice iD K.aU.length g9,vR,zI K.days,zI K.stay,.slice iu K.bO.length ia,(.slice ha (aI K.str).length hc),(.slice ua ls.length uc),zS],.l X]<|jf [2,1,3] (LH++(X++Lw)) (λAH fq gV=>?_);have hHs:=hoH.jI (Knows.left gV);have hLs:=hoL.jI (Knows.left (Knows.right gV));have hWs:=hWW _ (Knows.right (Knows.right gV));obtain⟨Ma,xD,Up⟩:=hWs;obtain⟨qWa,qWb,qWo,qWc,hWe,qWk,qWh,qWl⟩:=xD;simp only[Value.slice.injEq] at hWe;obtain⟨rfl,rfl,rfl⟩:=hWe;have hwl:=Up.len;refine zD 9<|wN<|wN<|iE [1,1,1,1,0,1,0,0] [] (λ(zz:Nat×Value×Cells×(List eH)×Cells)=>[(2,.pointer none),(3,zI 0),(4,zP Hb),(21,.slice wa Ma.length wc),(22,zI (Ma.length:Int)),(23,zI (zz.1:Int))]) (λzz=>[zxc Hb 113 [vS,vT,.slice fa 0 fc,.slice iD K.aU.length g9,vR,zI K.days,zI K.stay,.slice iu K.bO.length ia,(.slice ha (aI K.str).length hc),(.slice ua ls.length uc),zz.2.1],.l zz.2.2.1,.l zz.2.2.2.2,.l fr]) (λzz=>zz.1<=Ma.length/\zz.2.2.2.1.length=zz.1/\bJ zz.2.1 4 142 Bb zz.2.2.2.1 zz.2.2.1/\PsP zz.2.2.2.2 zz.2.2.2.1 ls K) (λzz=>Ma.length-zz.1) (⟨0,zS,[],[],[]⟩) ⟨Nat.zero_le _,rfl,bJ.nil _ _ _,λ_ _ h=>by simp at h⟩ [2,1,0,4] ?_;rintro⟨i,vO,LP,ps,Z⟩ hI K1 cX rest;dsimp only at hI;refine zD 5<|zJ 24 ((i:Int) <(Ma.length:Int)) (λh4=>?_) λh4=>?_
 ·
  refine zD 6<|zxs Ma i wc 1 qWh (λFq nA=>?_);obtain⟨l26,aqO,h26⟩:=Up.get nA;obtain aHy:=zL aqO;obtain aSW:=id h26;obtain⟨y26,aGA,aRL⟩:∃y,K.g l26=y.g/\Walk K.ways ⟨[],K.str,rO⟩ l26 y:=K.walk aHy;obtain⟨anW,bcD,bcB,Zh,rfl,bcC,av2,av1⟩:=h26;refine jl 0 (qWl _ _ nA)<|zD 6<|jcL (vs:=[zP Hb,.slice anW l26.length Zh]) [] [0] [(Hb,.cells ⟨[vS,vT,.slice fa 0 fc,.slice iD K.aU.length g9,vR,zI K.days,zI K.stay,.slice iu K.bO.length ia,(.slice ha (aI K.str).length hc),(.slice ua ls.length uc),vO]⟩ 113 (0,0))] (λcK hs hZ=>bdp (W:=⟨vS,vT,.slice fa 0 fc,.slice iD K.aU.length g9,vR,.slice iu K.bO.length ia,vO,K.days,K.stay,ha,(aI K.str).length,hc⟩) (u:= .slice ua ls.length uc) (w:=l26) hZ.head (hS.up (fq.trans hs)) (hT.up (fq.trans hs)) (hHs.up ((Sub.refl _).trans hs)) hV.c (aSW.up ((Sub.refl _).trans hs)) aRL) ?_;rintro _ _ ⟨rm,F,rfl,aHx,aRO⟩;rw[<-aGA] at aRO;obtain⟨esW,ckW,rfl,hEW⟩:=aHx;refine jg 0 [.b rm (.map esW ckW)]<|zD 1<|jn λb9=>jd 1 [0]<|jf [1] [(rm,.map esW ckW)] (λro7 wO Jk=>?_);have Qh:=Jk _ (.head _);refine zD 4<|jcL (vs:=[zP Hb,zP b9]) [0] [0] [(Hb,.cells ⟨[vS,vT,.slice fa 0 fc,.slice iD K.aU.length g9,vR,zI K.days,zI K.stay,.slice iu K.bO.length ia,(.slice ha (aI K.str).length hc),(.slice ua ls.length uc),vO]⟩ 113 (0,0))] (λcK hs hZ=>aQO (W:=⟨vS,vT,.slice fa 0 fc,.slice iD K.aU.length g9,vR,.slice iu K.bO.length ia,vO,K.days,K.stay,ha,(aI K.str).length,hc⟩) (u:= .slice ua ls.length uc) (pb:=b9) (rw:=rm) (o0:=none) (o1:=none) (o2:=none) (wi:=Si K.hs (K.g l26)) (wb:=λx=>decide (HE K.hs (K.g l26) x>=0)) hZ.head (C9.up ((fq.trans wO).trans hs)) (hr.up ((fq.trans wO).trans hs)) (he0.up ((fq.trans wO).trans hs)) (hLs.up (wO.trans hs)) (hHs.up (wO.trans hs)) hV.c hV.eok (by omega) (by have:=hV.h3;simp only[eQ.hs] at this;omega) hV.Nr.2 hV.bO (hs _ _ Qh) hEW (amn aRO)) ?_;rintro _ _ ⟨NY,Z32,rfl,⟨hxw,hxm⟩,hMP,rfl⟩;refine jg 0 [zxc b9 142 [NY.w,NY.m0,NY.m1,NY.m2],.l Z32]<|jd 8 [2,0]<|zxo 6 λDX=>jn λU0=>eP DX (zN 1 6)<|zxo 7 λwA=>gC (sz:=4) (ps:=ps) (qs:=[(⟨NY.w,NY.m0,NY.m1,NY.m2⟩:eH)]) (enc:=Bb) (w:= .slice (some ⟨U0,0,none⟩) 1 1) [4] [0] [(U0,.cells ⟨([(⟨NY.w,NY.m0,NY.m1,NY.m2⟩:eH)].map Bb).flatten⟩ 142 (0,0))] (hI.2.2.1) (λs _ hZ=>de [(⟨NY.w,NY.m0,NY.m1,NY.m2⟩:eH)] (hZ _ (.head _)) (by intro p hp;rfl)) (Zv hxw hxm) (by simp only[List.length_cons,List.length_nil];omega) (λv40 L40 nP=>?_);obtain⟨Jx,Jv,Ky⟩:=nP.form;subst Ky;refine eE wA []<|zD 2<|zxo 10 λuD=>jd 1 [4]<|eE uD []<|zD 2<|zW ((i:Int)+1)<|zD 2<|C7 cX (⟨i+1,(.slice Jx ((ps++[(⟨NY.w,NY.m0,NY.m1,NY.m2⟩:eH)])).length Jv),L40,(ps++[(⟨NY.w,NY.m0,NY.m1,NY.m2⟩:eH)]),Z32++Z⟩) ⟨by dsimp only;omega,by dsimp only;simp only[zM];omega,nP,hI.2.2.2.snoc (by rw[hI.2.1,ao4 aqO];exact hMP)⟩ (by dsimp only;omega) [[4],[0],[3,5],[6]] wO
 refine zD 7<|jf [0,1,2] ((Hb,.cells ⟨[vS,vT,.slice fa 0 fc,.slice iD K.aU.length g9,vR,zI K.days,zI K.stay,.slice iu K.bO.length ia,(.slice ha (aI K.str).length hc),(.slice ua ls.length uc),vO]⟩ 113 (0,0))::(LP++Z)) (λbbz akd aHM=>?_);have yW:Bi bbz Hb K ⟨vS,vT,.slice fa 0 fc,.slice iD K.aU.length g9,vR,.slice iu K.bO.length ia,vO,K.days,K.stay,ha,(aI K.str).length,hc⟩ (.slice ua ls.length uc) ls ps:=⟨⟨aHM _ (.head _),hV.days,hV.Nr.2,⟨_,rfl,C9.up (fq.trans akd)⟩,⟨_,rfl,he0.up (fq.trans akd)⟩,hV.bO,hLs.up akd,by omega,hI.2.2.1.jI (Knows.left (Knows.tail aHM)),by omega,λi x hx j hj=>by obtain⟨r,es,ck,F,h1,h2,h3,h4⟩:=hI.2.2.2 i x hx j hj;exact⟨r,es,ck,F,h1,(Knows.right (Knows.tail aHM)) _ h2,h3,h4⟩⟩,rfl,hK0.up (fq.trans akd),hHs.up akd,rfl,hls,by omega⟩;refine zD 2<|aRn qC.a.a (.tuple ⟨[zP Hb,zI 0]⟩) [0] [] (fq.trans akd) ⟨Hb,_,_,ls,ps,rfl,yW,rfl⟩
abbrev ePr(x:Int×Int):List Value:=[zI x.1,zI x.2]
def Ou(xs:List (Int×Int)):Prop:=xs.length<=10/\∀x∈xs,0<=x.1/\x.1 <x.2/\x.2<=1000000
def awf{a c d:Int}(h:0<=a/\a <b/\b<=1000000)(h2:0<=c/\c <d/\d<=1000000):Ou [(a,b),(c,d)]:=⟨by simp,λx hx=>by
 rcases aS.1 hx with rfl|hx
 .exact h
 rw[aV] at hx;subst hx;exact h2⟩
def aPw{a c d e:Int}(h:0<=a/\a <b/\b<=1000000)(h2:0<=c/\c <d/\d<=1000000)(h3:0<=e/\e <f/\f<=1000000):Ou [(a,b),(c,d),(e,f)]:=⟨by simp,λx hx=>by
 rcases aS.1 hx with rfl|hx
 .exact h
 exact(awf h2 h3).2 x hx⟩
def aF1{K:eQ}{W:ky}{ls:List cy}{ps:List eH}(hI:Bi ro Hb K W u ls ps)(g1:ro b1=some (.cells ⟨[zI (p:Int)]⟩ 3 (0,0)))(g2:ro b2=some (.cells ⟨[zI (d:Int)]⟩ 3 (0,0))):eW zT 55 [zP Hb,zP b1,zP b2] ro [] (λr Y=>bJ r 2 114 ePr [((p:Int),(K.aU.length:Int)),((d:Int),K.days)] Y):=by
 have fb:=hI.r;obtain⟨xs,ME,yU⟩:=fb.pe;obtain⟨rI,qxb,qxo,ru,Bm,qxk,Y8,Y6⟩:=yU;obtain⟨es,wz,og⟩:=fb.e;obtain⟨iu,zu,zt,ia,Bo,Je,yu,yt⟩:=og;obtain⟨fQ,rK,rJ,fg,hle,tJ,nj,nY⟩:=fb.l;obtain⟨iD,zr,zo,g9,CL,CE,zq,zp⟩:=fb.p;obtain⟨pW,Zf,Zd,oX,SX,Ze,Su,Ss⟩:=hI.hh;have hH:ro Hb=some (.cells ⟨[W.a0,W.a1,W.a2,.slice rI xs.length ru,W.a4,zI W.D,zI W.S,.slice iu es.length ia,.slice pW K.hs.length oX,.slice fQ ls.length fg,.slice iD ps.length g9]⟩ 113 (0,0)):=by rw[<-Bm,<-Bo,<-hle,<-CL,<-SX];exact fb.h
 have hn3:=fb.n3;have R5:=fb.e5;have FC:=fb.ll;have xE:=fb.pl;have hDD:=fb.d;have Qy:=hI.d;refine zE<|zD 6<|jl (b:=b1) (off:=0) (m:=1) (vs:=[zI (p:Int)]) 0 ⟨_,_,_,.inl g1,rfl⟩<|zD 4<|jl (b:=Hb) (off:=0) (m:=11) (vs:=[W.a0,W.a1,W.a2,.slice rI xs.length ru,W.a4,zI W.D,zI W.S,.slice iu es.length ia,.slice pW K.hs.length oX,.slice fQ ls.length fg,.slice iD ps.length g9]) 3 ⟨_,_,_,.inl hH,rfl⟩<|zD 2<|jl (b:=b2) (off:=0) (m:=1) (vs:=[zI (d:Int)]) 0 ⟨_,_,_,.inl g2,rfl⟩<|zD 4<|jl (b:=Hb) (off:=0) (m:=11) (vs:=[W.a0,W.a1,W.a2,.slice rI xs.length ru,W.a4,zI W.D,zI W.S,.slice iu es.length ia,.slice pW K.hs.length oX,.slice fQ ls.length fg,.slice iD ps.length g9]) 5 ⟨_,_,_,.inl hH,rfl⟩<|zD 1<|zxo 15 λtT=>jn λb20=>eP tT []<|zD 3<|zR _ [] [0] _ (by simp only[<-ME,<-wz,<-Qy];exact iZ (b:=b20) (T:=114) [((p:Int),(xs.length:Int)),((d:Int),W.D)] rfl (λ_ _=>rfl))
def aQJ{K:eQ}{W:ky}{ls:List cy}{ps:List eH}(hI:Bi ro Hb K W u ls ps)(g1:ro b1=some (.cells ⟨[zI (p:Int)]⟩ 3 (0,0)))(g2:ro b2=some (.cells ⟨[zI h]⟩ 3 (0,0)))(g3:ro b3=some (.cells ⟨[zI (d:Int)]⟩ 3 (0,0)))(hh: -1<=h/\h<=1000)(hhl:K.hs.length<=1000):eW zT 62 [zP Hb,zP b1,zP b2,zP b3] ro [] (λr Y=>bJ r 2 114 ePr [((p:Int),(K.aU.length:Int)),((h+1),((K.hs.length:Int)+1)),((d:Int),K.days)] Y):=by
 have fb:=hI.r;obtain⟨xs,ME,yU⟩:=fb.pe;obtain⟨rI,qxb,qxo,ru,Bm,qxk,Y8,Y6⟩:=yU;obtain⟨es,wz,og⟩:=fb.e;obtain⟨iu,zu,zt,ia,Bo,Je,yu,yt⟩:=og;obtain⟨fQ,rK,rJ,fg,hle,tJ,nj,nY⟩:=fb.l;obtain⟨iD,zr,zo,g9,CL,CE,zq,zp⟩:=fb.p;obtain⟨pW,Zf,Zd,oX,SX,Ze,Su,Ss⟩:=hI.hh;have hH:ro Hb=some (.cells ⟨[W.a0,W.a1,W.a2,.slice rI xs.length ru,W.a4,zI W.D,zI W.S,.slice iu es.length ia,.slice pW K.hs.length oX,.slice fQ ls.length fg,.slice iD ps.length g9]⟩ 113 (0,0)):=by rw[<-Bm,<-Bo,<-hle,<-CL,<-SX];exact fb.h
 have hn3:=fb.n3;have R5:=fb.e5;have FC:=fb.ll;have xE:=fb.pl;have hDD:=fb.d;have Qy:=hI.d;refine zE<|zD 6<|jl (b:=b1) (off:=0) (m:=1) (vs:=[zI (p:Int)]) 0 ⟨_,_,_,.inl g1,rfl⟩<|zD 4<|jl (b:=Hb) (off:=0) (m:=11) (vs:=[W.a0,W.a1,W.a2,.slice rI xs.length ru,W.a4,zI W.D,zI W.S,.slice iu es.length ia,.slice pW K.hs.length oX,.slice fQ ls.length fg,.slice iD ps.length g9]) 3 ⟨_,_,_,.inl hH,rfl⟩<|zD 2<|jl (b:=b2) (off:=0) (m:=1) (vs:=[zI h]) 0 ⟨_,_,_,.inl g2,rfl⟩<|zW (h+1)<|zD 3<|jl (b:=Hb) (off:=0) (m:=11) (vs:=[W.a0,W.a1,W.a2,.slice rI xs.length ru,W.a4,zI W.D,zI W.S,.slice iu es.length ia,.slice pW K.hs.length oX,.slice fQ ls.length fg,.slice iD ps.length g9]) 8 ⟨_,_,_,.inl hH,rfl⟩<|zD 1<|zW ((K.hs.length:Int)+1)<|zD 1<|jl (b:=b3) (off:=0) (m:=1) (vs:=[zI (d:Int)]) 0 ⟨_,_,_,.inl g3,rfl⟩<|zD 4<|jl (b:=Hb) (off:=0) (m:=11) (vs:=[W.a0,W.a1,W.a2,.slice rI xs.length ru,W.a4,zI W.D,zI W.S,.slice iu es.length ia,.slice pW K.hs.length oX,.slice fQ ls.length fg,.slice iD ps.length g9]) 5 ⟨_,_,_,.inl hH,rfl⟩<|zD 1<|zxo 24 λtT=>jn λb30=>eP tT []<|zD 3<|zR _ [] [0] _ (by simp only[<-ME,<-wz,<-Qy];exact iZ (b:=b30) (T:=114) [((p:Int),(xs.length:Int)),((h+1),((K.hs.length:Int)+1)),((d:Int),W.D)] rfl (λ_ _=>rfl))
def GN{K:eQ}{f:FuncId}(hK:yl ro l K)(hV:wF K)(Jm:Hu zT f=true)(hpr:∀bU Hb W u ls ps,Sub ro bU->Bi bU Hb K W u ls ps->eW zT f (fi++[zP Hb]++ca) bU [] (λr Y=>∃xs,bJ r 2 114 ePr xs Y/\Ou xs)):azA zT 54 [.agg ⟨l⟩,(.func (.func f) ⟨fi⟩ ⟨ca⟩)] ro [] (λr cK Y=>∃Hb W u ls ps,r= .tuple ⟨[zP Hb,zI 0]⟩/\Bi cK Hb K W u ls ps/\Y=[]):=by
 have cX:=hK;obtain⟨vS,vT,vP,vR,vE,fa,fc,rfl,hS,hT,hp,hr,he⟩:=hK;have C9:=hp;have he0:=he;have Ae:=hr;obtain⟨iD,zr,zo,g9,rfl,CE,zq,zp⟩:=hp;obtain⟨iu,zu,zt,ia,rfl,Je,yu,yt⟩:=he;refine aBr (hm:=bE) [] [] c9 λfr=>zD 2<|jn λb2=>jd 6 [0]<|SG (vs:=[.agg ⟨[vS,vT,.slice fa 0 fc,.slice iD K.aU.length g9,vR,zI K.days,zI K.stay,.slice iu K.bO.length ia]⟩]) [] (λ_ _ h=>h) (aea cX hV) ?_;rintro _ cK _ fq ⟨Hb,W,u,ls,ps,rfl,yW,rfl⟩;refine jg 0 []<|zD 19<|jcF (vs:=fi++[Value.pointer (some ⟨Hb,0,none⟩)]++ca) [] Jm (hpr _ _ _ _ _ _ fq yW) ?_;rintro v20 Y20 ⟨xs,aqC,yU⟩;obtain⟨OM,OJ,aeK⟩:=aqC.form;subst aeK;have hxl:=yU.1;refine zD 4<|iE [1,1,1,0,1,0,0] [] (λ(zz:Nat)=>[(6,zP Hb),(20,(.slice OM xs.length OJ)),(21,zI (xs.length:Int)),(22,zI (zz:Int))]) (λzz=>[.l Y20,zxc b2 33 [vS,vT,.slice fa 0 fc,.slice iD K.aU.length g9,vR,zI K.days,zI K.stay,.slice iu K.bO.length ia],.l fr]) (λzz=>zz<=xs.length) (λzz=>xs.length-zz) 0 (bK _) [0,1,2] ?_;rintro k hI K1 cX rest;refine zD 5<|zJ 23 ((k:Int) <(xs.length:Int)) (λh2=>?_) λh2=>?_
 ·
  refine zD 6 ?_;obtain⟨OB,Ik⟩:=zG xs k;refine jxo 2 aqC Ik λb24 bhu=>zx 0 [0] Y20 (λs _ hZ=>lS aqC bhu hZ Ik)<|jn λb9=>jd 3 [0] ?_;have hq:=yU.2 _ (zL Ik);refine jd 5 [0,0]<|zW (OB.2-1)<|zxp [zI OB.1,zI 0,zI (OB.2-1)] (λhs=>SC)<|zD 2<|js 32 (!(pF OB.1 0 (OB.2-1))) (λh3=>?_) (λh3=>?_)
  ·
   try simp only[zB] at h3
   exfalso;simp[pF] at h3;omega
  try simp only[zB] at h3
  refine zD 3<|zW ((k:Int)+1)<|zD 2<|zY cX (k+1) (by omega) [1,2,3]
 refine zD 9<|aRn qC.a (.tuple ⟨[zP Hb,zI 0]⟩) [2] [] fq ⟨Hb,W,u,ls,ps,rfl,yW,rfl⟩
def RB(f:cv->Int)(L:List cv)(ds:List Int):Prop:=ds.Nodup/\(ds.all λx=>L.any λt=>decide (f t=x))=true/\(L.all λt=>ds.contains (f t))=true
def RB.perm{f:cv->Int}{L L':List cv}(h:RB f L' ds)(hL:L.Perm L')(hz:zs.Perm ((Wb f L).map (·.1))):zs.Perm ds:=ajW hz hL h.1 h.2.1 h.2.2
theorem RB.len{f:cv->Int}{L L':List cv}(h:RB f L' ds)(hL:L.Perm L'):(Wb f L).length=ds.length:=by
 have:=(h.perm hL (.refl _)).length_eq;simpa using this
def OH(a n:Int):Int:=bif decide (n=0) then 0 else bif decide (a=n) then 1 else bif decide (a=0) then 2 else 3
def OG(n:Int):Int:=bif decide (n=0) then 9 else 0
def au7(a n:Int):acP a n= .tuple ⟨[zI (OH a n),zI (OG n)]⟩:=by
 unfold acP OH OG;by_cases h1:n=0
 .simp[h1]
 by_cases h2:a=n
 .simp[h1,h2]
 by_cases h3:a=0
 .subst h3;simp[h1,h2]
 simp[h1,h2,h3]
theorem Pz{t:cv}{k:Nat}{l:cy}:(t.put k l).past=t.past:=by
 rcases k with _|_|k<;>rfl
def awZ{K:eQ}(hK:yl ro l K)(hV:wF K)(hp:p <K.aU.length)(hd:(d:Int) <K.days)(hT:0 <(mg K (allM K.bO.length)).length)(hds:RB (λt:cv=>(t.at p).at d) (mg K (allM K.bO.length)) ds)(hdl:ds.length<=12):RP zT 14 [.agg ⟨l⟩,zI (p:Int),zI (d:Int)] ro [] (λr Y=>∃v zs,r= .tuple ⟨[v,zI 0]⟩/\zs.Perm ds/\bJ v 1 3 eI (yM zs) Y):=by
 have cX:=hK;obtain⟨vS,vT,vP,vR,vE,fa,fc,rfl,hS,hT,hp,hr,he⟩:=hK;have C9:=hp;have he0:=he;have Ae:=hr;obtain⟨iD,zr,zo,g9,rfl,CE,zq,zp⟩:=hp;obtain⟨iu,zu,zt,ia,rfl,Je,yu,yt⟩:=he;have hpp:=hV.Nr;have Oi:=hV.days;have Bo:=hV.bO;refine SF bE [] [] c9 λfr=>zD 2<|jn λb3=>jn λb4=>jn λb5=>zD 2<|jf [1,0] ((b4,.cells ⟨[zI (p:Int)]⟩ 3 (0,0))::[(b5,.cells ⟨[zI (d:Int)]⟩ 3 (0,0))]) λAH fq gV=>jd 5 [0]<|SG (vs:=[.agg ⟨[vS,vT,.slice fa 0 fc,.slice iD K.aU.length g9,vR,zI K.days,zI K.stay,.slice iu K.bO.length ia]⟩,.func (.func 55) ⟨[]⟩ ⟨[zP b4,zP b5]⟩]) [] (λ_ _ h=>h) (GN (f:=55) (fi:=[]) (ca:=[zP b4,zP b5]) (cX.up fq) hV (by kernel_rfl) (λbU Hb W u ls ps hs hI=>(aF1 hI (hs _ _ (gV _ (.head _))) (hs _ _ (gV _ (.tail _ (.head _))))).mono λ_ _ h=>⟨_,h,awf (by omega) (by omega)⟩)) ?_;rintro _ ro4 _ sE ⟨Hb,W,u,ls,ps,rfl,yW,rfl⟩;have KA:=yW.Sm (allM K.bO.length);have Qz:=KA.length_eq;have Qy:=yW.d;refine jg 0 []<|zD 16<|jmk MA λr20 L20 aHA=>jn λFL=>jd 1 [0]<|jf [0] [(FL,.cells ⟨[(.map (some r20))]⟩ 117 (0,0))] λro7 wO Jk=>zD 7<|jc (vs:=[zP Hb,.agg ⟨[.func (.func 57) ⟨[]⟩ ⟨[zP FL,zP b4,zP b5]⟩]⟩]) [0] (GL (f:=57) (fi:=[]) (ca:=[zP FL,zP b4,zP b5]) (Jn:=λk Y=>iq r20 MA (Wb (λt:cv=>(t.at p).at d) ((j9 W.D ls (wZ K) K.aU.length ps.length (allM K.bO.length)).take k)) Y) (yW.r.up wO) (by kernel_rfl) aHA (λk x hx bU hs B hB=>(aw0 (hs _ _ (Jk _ (.head _))) (hs _ _ (wO _ _ (sE _ _ (gV _ (.head _))))) (hs _ _ (wO _ _ (sE _ _ (gV _ (.tail _ (.head _)))))) (by omega) (by omega) hB).mono λ_ _ h=>by rw[T7 hx];exact h.2) (by rw[Qz];exact hV.n)) ?_;rintro _ Y99 ⟨rfl,A5⟩;simp only[List.take_length] at A5;obtain⟨esS,ckS,rfl,hES⟩:=A5;refine jg 0 [.b r20 (.map esS ckS)]<|zD 1<|jf [0] [(r20,.map esS ckS)] (λaEV Nz Qs=>?_);have hmS:=Qs _ (.head _);refine zD 1<|zJ 25 (((j9 W.D ls (wZ K) K.aU.length ps.length (allM K.bO.length)).length:Int)=0) (λwD=>?_) λwD=>?_
 ·
  exfalso;omega
 refine zD 4<|jl (b:=FL) (off:=0) (m:=1) (vs:=[(.map (some r20))]) 0 ⟨_,_,_,.inl (Nz _ _ (Jk _ (.head _))),rfl⟩<|jc (vs:=[(.map (some r20))]) [] (apu hmS hES (by rw[hds.len KA];exact hdl)) ?_;rintro v88 L88 ⟨zs,hzs,aaN⟩;obtain⟨amx,amr,aq2⟩:=aaN.form;subst aq2;refine zD 4<|jrC qC.a.a.a.a (.tuple ⟨[(.slice amx (yM zs).length amr),zI 0]⟩) [0,2] L88 (((fq.trans sE).trans wO).trans Nz) ⟨_,zs,rfl,hds.perm KA hzs,aaN⟩
def apt{a:Int}(g:ro y=some (.cells ⟨[zI a,zI n]⟩ 130 (0,0))):iz zT 65 [zP y] ro (.tuple ⟨[zI (OH a n),zI (OG n)]⟩):=au7 a n▸aQI g
def aps{K:eQ}(hK:yl ro l K)(hV:wF K)(hp:p <K.aU.length)(hd:(d:Int) <K.days)(hh: -1<=h/\h <K.hs.length):RP zT 17 [.agg ⟨l⟩,zI (p:Int),zI h,zI (d:Int)] ro [] (λr Y=>r= .tuple ⟨[zI (OH (tw (λt:cv=>decide ((t.at p).at d=h)) (mg K (allM K.bO.length))) ((mg K (allM K.bO.length)).length:Int)),zI (OG ((mg K (allM K.bO.length)).length:Int))]⟩/\Y=[]):=by
 have cX:=hK;obtain⟨vS,vT,vP,vR,vE,fa,fc,rfl,hS,hT,hp,hr,he⟩:=hK;have C9:=hp;have he0:=he;have Ae:=hr;obtain⟨iD,zr,zo,g9,rfl,CE,zq,zp⟩:=hp;obtain⟨iu,zu,zt,ia,rfl,Je,yu,yt⟩:=he;have hpp:=hV.Nr;have Oi:=hV.days;have Bo:=hV.bO;have hh3:=hV.h3;refine SF bE [] [] c9 λfr=>zD 2<|jn λb4=>jn λb5=>jn λb6=>jn λb7=>zD 2<|jf [2,1,0] ((b5,.cells ⟨[zI (p:Int)]⟩ 3 (0,0))::((b6,.cells ⟨[zI h]⟩ 3 (0,0))::[(b7,.cells ⟨[zI (d:Int)]⟩ 3 (0,0))])) λAH fq gV=>jd 5 [0]<|SG (vs:=[.agg ⟨[vS,vT,.slice fa 0 fc,.slice iD K.aU.length g9,vR,zI K.days,zI K.stay,.slice iu K.bO.length ia]⟩,.func (.func 62) ⟨[]⟩ ⟨[zP b5,zP b6,zP b7]⟩]) [] (λ_ _ h=>h) (GN (f:=62) (fi:=[]) (ca:=[zP b5,zP b6,zP b7]) (cX.up fq) hV (by kernel_rfl) (λbU Hb W u ls ps hs hI=>(aQJ hI (hs _ _ (gV _ (.head _))) (hs _ _ (gV _ (.tail _ (.head _)))) (hs _ _ (gV _ (.tail _ (.tail _ (.head _))))) (by omega) (by omega)).mono λ_ _ h=>⟨_,h,aPw (by omega) (by omega) (by omega)⟩)) ?_;rintro _ ro4 _ sE ⟨Hb,W,u,ls,ps,rfl,yW,rfl⟩;have KA:=yW.Sm (allM K.bO.length);have Qz:=KA.length_eq;have Qy:=yW.d;refine jg 0 []<|zD 16<|jn λHv=>zD 4<|jn λBe=>jd 1 [0]<|jf [0] [(Be,.cells ⟨[.func (.func 63) ⟨[zP Hv]⟩ ⟨[]⟩]⟩ 131 (0,0))] λro7 wO Jk=>zD 6<|jc (vs:=[zP Hb,.agg ⟨[.func (.func 64) ⟨[]⟩ ⟨[zP Be,zP b5,zP b7,zP b6]⟩]⟩]) [0] (GL (f:=64) (fi:=[]) (ca:=[zP Be,zP b5,zP b7,zP b6]) (Jn:=λk Y=>Y=[(Hv,.cells ⟨[zI (tw (λt:cv=>decide ((t.at p).at d=h)) ((j9 W.D ls (wZ K) K.aU.length ps.length (allM K.bO.length)).take k)),zI (k:Int)]⟩ 130 (0,0))]) (yW.r.up wO) (by kernel_rfl) rfl (λk x hx bU hs B hB=>by subst hB;have Ui:=(aB.1 hx).1;have kp:=aij (q:=(λt:cv=>decide ((t.at p).at d=h))) (show k<=(j9 W.D ls (wZ K) K.aU.length ps.length (allM K.bO.length)).length by omega);exact(aF2 (hs _ _ (Jk _ (.head _))) (hs _ _ (wO _ _ (sE _ _ (gV _ (.head _))))) (hs _ _ (wO _ _ (sE _ _ (gV _ (.tail _ (.tail _ (.head _))))))) (hs _ _ (wO _ _ (sE _ _ (gV _ (.tail _ (.head _)))))) (by omega) (by omega) kp (by have:=hV.n;omega)).mono λ_ _ h=>by rw[h.2,US hx];rfl) (by rw[Qz];exact hV.n)) ?_;rintro _ Y99 ⟨rfl,A5⟩;simp only[List.take_length] at A5;subst A5;refine jg 0 [zxc Hv 130 [zI (tw (λt:cv=>decide ((t.at p).at d=h)) (j9 W.D ls (wZ K) K.aU.length ps.length (allM K.bO.length))),zI ((j9 W.D ls (wZ K) K.aU.length ps.length (allM K.bO.length)).length:Int)]]<|zD 3<|jp (vs:=[zP Hv]) [0] [(Hv,.cells ⟨[zI (tw (λt:cv=>decide ((t.at p).at d=h)) (j9 W.D ls (wZ K) K.aU.length ps.length (allM K.bO.length))),zI ((j9 W.D ls (wZ K) K.aU.length ps.length (allM K.bO.length)).length:Int)]⟩ 130 (0,0))] (λcK hs hZ=>apt hZ.head)<|zD 6<|jrC qC.a.a.a (.tuple ⟨[zI (OH (tw (λt:cv=>decide ((t.at p).at d=h)) (j9 W.D ls (wZ K) K.aU.length ps.length (allM K.bO.length))) ((j9 W.D ls (wZ K) K.aU.length ps.length (allM K.bO.length)).length:Int)),zI (OG ((j9 W.D ls (wZ K) K.aU.length ps.length (allM K.bO.length)).length:Int))]⟩) [2] [] ((fq.trans sE).trans wO) ⟨by rw[Le KA,Qz],rfl⟩
def eqI:List Int->List Int->Bool
 | [],[]=>true
 |x::l,y::m=>decide (x=y)&&eqI l m
 |_,_=>false
theorem as8:∀ {l m:List Int},¬l.length=m.length->eqI l m=false
 | [],[],h=>absurd rfl h
 | [],_::_,_=>rfl
 |_::_,[],_=>rfl
 |x::l,y::m,h=>by rw[eqI,as8 (by grind),Bool.and_false]
theorem as9{k:Nat}{y:Int}(hx:xs[k]?=some x) (hy:ys[k]?=some y):eqI (xs.drop k) (ys.drop k)=(decide (x=y)&&eqI (xs.drop (k+1)) (ys.drop (k+1))):=by rw[lg hx,lg hy];rfl
theorem ayZ{k:Nat}(hx:¬k <xs.length)(h:xs.length=ys.length):eqI (xs.drop k) (ys.drop k)=true:=by rw[pz hx,pz (by omega)];rfl
def y4:List Int->List Int->Int
 | [],[]=>0
 | [],_::_=> -1
 |_::_,[]=>1
 |x::xs,y::ys=>if tN x y=0 then y4 xs ys else tN x y
theorem abM{k:Nat}{y:Int}(hx:xs[k]?=some x) (hy:ys[k]?=some y):y4 (xs.drop k) (ys.drop k)=if tN x y=0 then y4 (xs.drop (k+1)) (ys.drop (k+1)) else tN x y:=by rw[lg hx,lg hy];rfl
theorem akX{k:Nat}(hx:xs[k]?=some x) (hy:¬k <ys.length):y4 (xs.drop k) (ys.drop k)=1:=by rw[lg hx,pz hy];rfl
theorem UT{k:Nat}(hx:¬k <xs.length):y4 (xs.drop k) (ys.drop k)=if k <ys.length then-1 else 0:=by
 rw[pz hx];split
 .rename_i h;rw[gI h];rfl
 rename_i h;rw[pz h];rfl
def pL(f:Int):Int:=([0,1,1,2,1,2,2,3,1,2,2,3,2,3,3,4,1,2,2,3,2,3,3,4,2,3,3,4,3,4,4,5]:List Int).getD f.toNat 0
def wK(t:Int->Bool)(b c:Int):Int:=bif decide (pL c>pL b) then b else bif decide (pL c=pL b)&&decide (y4 (mw c 5) (mw b 5)>=0) then b else bif t c then c else b
def CV(t:Int->Bool)(n:Nat):Nat->Int
 |0=>allM n
 |c+1=>wK t (CV t n c) (c:Int)
def KU(t:Int->Bool)(n:Nat):List Int:=mw (CV t n (2^n)) 5
def azu{n:Nat}(h:n<=5):0<=allM n/\allM n <32:=by
 have:n=0\/n=1\/n=2\/n=3\/n=4\/n=5:=by omega
 rcases this with rfl|rfl|rfl|rfl|rfl|rfl<;>decide
def avB{n:Nat}(h:n<=5):iA .i64 1 (n:Int)=((2^n:Nat):Int)/\2^n<=32:=by
 have:n=0\/n=1\/n=2\/n=3\/n=4\/n=5:=by omega
 rcases this with rfl|rfl|rfl|rfl|rfl|rfl<;>exact⟨by rfl,by simp⟩
theorem aMX{c:Nat}(h:c <32):Value.int .u8 (IntKind.u8.wrap (c:Int))= .int .u8 (c:Int):=by
 rw[Ax .u8 rfl _ (by simp) (by grind [IntKind.bits])]
theorem aVi{v w:Value}(hv:dq ro v 1 eI xs)(hw:dq ro w 1 eI ys)(hx:xs.length<=1000)(hy:ys.length<=1000):iz zT 16 [v,w] ro (.bool (eqI xs ys)):=by
 obtain⟨VL,qvb,qvo,Jd,rfl,qvk,Za,Y9⟩:=hv;obtain⟨tI,Mq,Mp,qN,rfl,qwk,C4,C3⟩:=hw;refine zE<|zD 13<|js 10 (!decide ((xs.length:Int)=(ys.length:Int))) (λh1=>?_) (λh1=>?_)
 ·
  replace h1:=ah (by simpa using h1);refine zD 6<|zX _ ⟨by rw[as8 (by omega)],rfl⟩
 replace h1:=ai (by simpa using h1);refine zD 8<|iE [1,1,0,1,0,0] [] (λ(zz:Nat)=>[(0,.slice VL xs.length Jd),(1,.slice tI ys.length qN),(5,zI (zz:Int))]) (λzz=>[]) (λzz=>zz<=xs.length/\eqI xs ys=eqI (xs.drop zz) (ys.drop zz)) (λzz=>xs.length-zz) 0 ⟨by omega,rfl⟩ [] ?_;rintro k hI K1 cX rest;refine zD 8<|zJ 14 ((k:Int) <(xs.length:Int)) (λh2=>?_) λh2=>?_
 ·
  refine zD 8<|zxt xs k Jd 1 Za Y9 λBs xW=>zD 2<|zxt ys k qN 1 C4 C3 λxJ qD=>zD 2<|js 25 (!decide (Bs=xJ)) (λh3=>?_) (λh3=>?_)
  ·
   replace h3:=ah (by simpa using h3);refine zD 6<|zX _ ⟨by rw[hI.2,as9 xW qD,cG (by omega),wJ],rfl⟩
  replace h3:=ai (by simpa using h3);refine zD 4<|zW ((k:Int)+1)<|zD 2<|zY cX (k+1) ⟨by omega,by rw[hI.2,as9 xW qD,cb (by omega),FO]⟩ []
 refine zD 7<|zX _ ⟨by rw[hI.2,ayZ (by omega) (by omega)],rfl⟩
def bee{v w:Value}(hv:dq ro v 1 eI xs)(hw:dq ro w 1 eI ys)(hx:xs.length<=1000)(hy:ys.length<=1000):iz zT 115 [v,w] ro (zI (y4 xs ys)):=by
 obtain⟨VL,qvb,qvo,Jd,rfl,qvk,Za,Y9⟩:=hv;obtain⟨tI,Mq,Mp,qN,rfl,qwk,C4,C3⟩:=hw;refine zE<|zD 12<|iE [1,0,1,0,0] [] (λ(zz:Nat)=>[(0,.slice VL xs.length Jd),(1,.slice tI ys.length qN),(9,.slice VL xs.length Jd),(10,zI (xs.length:Int)),(11,zI (zz:Int))]) (λzz=>[]) (λzz=>(zz<=xs.length/\zz<=ys.length)/\y4 xs ys=y4 (xs.drop zz) (ys.drop zz)) (λzz=>xs.length-zz) 0 ⟨by omega,rfl⟩ [] ?_;rintro k hI K1 cX rest;refine zD 5<|zJ 12 ((k:Int) <(xs.length:Int)) (λh1=>?_) λh1=>?_
 ·
  refine zD 7<|zxt xs k Jd 1 Za Y9 λu4 iB=>zD 11<|zJ 19 ((k:Int)>=(ys.length:Int)) (λh2=>?_) λh2=>?_
  ·
   refine zD 6<|zX _ ⟨by rw[hI.2,akX iB (by omega)],rfl⟩
  refine zD 6<|zxt ys k qN 1 C4 C3 λLY iQ=>zD 6<|zxp [zI u4,zI LY] (λhs=>ayH)<|zD 7<|js 28 (!decide ((tN u4 LY)=0)) (λh3=>?_) (λh3=>?_)
  ·
   replace h3:=ah (by simpa using h3);refine zD 7<|zX _ ⟨by rw[hI.2,abM iB iQ,cJ (by omega)],rfl⟩
  replace h3:=ai (by simpa using h3);refine zD 3<|zW ((k:Int)+1)<|zD 2<|zY cX (k+1) ⟨by omega,by rw[hI.2,abM iB iQ,dW (by omega)]⟩ []
 refine zD 11<|zJ 35 ((xs.length:Int) <(ys.length:Int)) (λh4=>?_) λh4=>?_
 ·
  refine zD 6<|zX _ ⟨by rw[hI.2,UT (by omega),dW (by omega)],rfl⟩
 refine zD 7<|zX _ ⟨by rw[hI.2,UT (by omega),cJ (by omega)],rfl⟩
def aGo:iz zT 114 [.int .u8 0] ro (zI 0):=by
 refine zE<|zD 12<|zX _ ⟨rfl,rfl⟩
def aGn:iz zT 114 [.int .u8 1] ro (zI 1):=by
 refine zE<|zD 12<|zX _ ⟨rfl,rfl⟩
def aGm:iz zT 114 [.int .u8 2] ro (zI 1):=by
 refine zE<|zD 12<|zX _ ⟨rfl,rfl⟩
def aGl:iz zT 114 [.int .u8 3] ro (zI 2):=by
 refine zE<|zD 12<|zX _ ⟨rfl,rfl⟩
def aGk:iz zT 114 [.int .u8 4] ro (zI 1):=by
 refine zE<|zD 12<|zX _ ⟨rfl,rfl⟩
def aGj:iz zT 114 [.int .u8 5] ro (zI 2):=by
 refine zE<|zD 12<|zX _ ⟨rfl,rfl⟩
def aGi:iz zT 114 [.int .u8 6] ro (zI 2):=by
 refine zE<|zD 12<|zX _ ⟨rfl,rfl⟩
def aGh:iz zT 114 [.int .u8 7] ro (zI 3):=by
 refine zE<|zD 12<|zX _ ⟨rfl,rfl⟩
def aGg:iz zT 114 [.int .u8 8] ro (zI 1):=by
 refine zE<|zD 12<|zX _ ⟨rfl,rfl⟩
def aGf:iz zT 114 [.int .u8 9] ro (zI 2):=by
 refine zE<|zD 12<|zX _ ⟨rfl,rfl⟩
def axw:iz zT 114 [.int .u8 10] ro (zI 2):=by
 refine zE<|zD 12<|zX _ ⟨rfl,rfl⟩
def axv:iz zT 114 [.int .u8 11] ro (zI 3):=by
 refine zE<|zD 12<|zX _ ⟨rfl,rfl⟩
def axu:iz zT 114 [.int .u8 12] ro (zI 2):=by
 refine zE<|zD 12<|zX _ ⟨rfl,rfl⟩
def axt:iz zT 114 [.int .u8 13] ro (zI 3):=by
 refine zE<|zD 12<|zX _ ⟨rfl,rfl⟩
def axs:iz zT 114 [.int .u8 14] ro (zI 3):=by
 refine zE<|zD 12<|zX _ ⟨rfl,rfl⟩
def axr:iz zT 114 [.int .u8 15] ro (zI 4):=by
 refine zE<|zD 12<|zX _ ⟨rfl,rfl⟩
def axq:iz zT 114 [.int .u8 16] ro (zI 1):=by
 refine zE<|zD 12<|zX _ ⟨rfl,rfl⟩
def axp:iz zT 114 [.int .u8 17] ro (zI 2):=by
 refine zE<|zD 12<|zX _ ⟨rfl,rfl⟩
def axo:iz zT 114 [.int .u8 18] ro (zI 2):=by
 refine zE<|zD 12<|zX _ ⟨rfl,rfl⟩
def axn:iz zT 114 [.int .u8 19] ro (zI 3):=by
 refine zE<|zD 12<|zX _ ⟨rfl,rfl⟩
def axm:iz zT 114 [.int .u8 20] ro (zI 2):=by
 refine zE<|zD 12<|zX _ ⟨rfl,rfl⟩
def axl:iz zT 114 [.int .u8 21] ro (zI 3):=by
 refine zE<|zD 12<|zX _ ⟨rfl,rfl⟩
def axk:iz zT 114 [.int .u8 22] ro (zI 3):=by
 refine zE<|zD 12<|zX _ ⟨rfl,rfl⟩
def axj:iz zT 114 [.int .u8 23] ro (zI 4):=by
 refine zE<|zD 12<|zX _ ⟨rfl,rfl⟩
def axi:iz zT 114 [.int .u8 24] ro (zI 2):=by
 refine zE<|zD 12<|zX _ ⟨rfl,rfl⟩
def axh:iz zT 114 [.int .u8 25] ro (zI 3):=by
 refine zE<|zD 12<|zX _ ⟨rfl,rfl⟩
def axg:iz zT 114 [.int .u8 26] ro (zI 3):=by
 refine zE<|zD 12<|zX _ ⟨rfl,rfl⟩
def axf:iz zT 114 [.int .u8 27] ro (zI 4):=by
 refine zE<|zD 12<|zX _ ⟨rfl,rfl⟩
def axe:iz zT 114 [.int .u8 28] ro (zI 3):=by
 refine zE<|zD 12<|zX _ ⟨rfl,rfl⟩
def axd:iz zT 114 [.int .u8 29] ro (zI 4):=by
 refine zE<|zD 12<|zX _ ⟨rfl,rfl⟩
def axc:iz zT 114 [.int .u8 30] ro (zI 4):=by
 refine zE<|zD 12<|zX _ ⟨rfl,rfl⟩
def axb:iz zT 114 [.int .u8 31] ro (zI 5):=by
 refine zE<|zD 12<|zX _ ⟨rfl,rfl⟩
def aBp(h:0<=f/\f <32):iz zT 114 [.int .u8 f] ro (zI (pL f)):=by
 obtain rfl|rfl|rfl|rfl|rfl|rfl|rfl|rfl|rfl|rfl|rfl|rfl|rfl|rfl|rfl|rfl|rfl|rfl|rfl|rfl|rfl|rfl|rfl|rfl|rfl|rfl|rfl|rfl|rfl|rfl|rfl|rfl:=(by omega:f=0\/f=1\/f=2\/f=3\/f=4\/f=5\/f=6\/f=7\/f=8\/f=9\/f=10\/f=11\/f=12\/f=13\/f=14\/f=15\/f=16\/f=17\/f=18\/f=19\/f=20\/f=21\/f=22\/f=23\/f=24\/f=25\/f=26\/f=27\/f=28\/f=29\/f=30\/f=31)
 .exact aGo
 .exact aGn
 .exact aGm
 .exact aGl
 .exact aGk
 .exact aGj
 .exact aGi
 .exact aGh
 .exact aGg
 .exact aGf
 .exact axw
 .exact axv
 .exact axu
 .exact axt
 .exact axs
 .exact axr
 .exact axq
 .exact axp
 .exact axo
 .exact axn
 .exact axm
 .exact axl
 .exact axk
 .exact axj
 .exact axi
 .exact axh
 .exact axg
 .exact axf
 .exact axe
 .exact axd
 .exact axc
 exact axb
def aw6{f:FuncId}{tst:Int->Bool}{W:ky}{ls:List cy}{ps:List eH}{mk:Nat->Nat->cy->Int}(fb:C1 ro Hb W u np ne ls ps mk)(Jm:Hu zT f=true)(ht:∀bU c,Sub ro bU->eW zT f (fi++[.int .u8 c]++ca) bU [] (λr Y=>r= .bool (tst c)/\Y=[])):eW zT 78 [zP Hb,(.func (.func f) ⟨fi⟩ ⟨ca⟩)] ro [] (λr Y=>∃L,bJ r 1 3 eI (KU tst ne) L/\Y=L):=by
 obtain⟨xs,ME,yU⟩:=fb.pe;obtain⟨rI,qxb,qxo,ru,Bm,qxk,Y8,Y6⟩:=yU;obtain⟨es,wz,og⟩:=fb.e;obtain⟨iu,zu,zt,ia,Bo,Je,yu,yt⟩:=og;obtain⟨fQ,rK,rJ,fg,hle,tJ,nj,nY⟩:=fb.l;obtain⟨iD,zr,zo,g9,CL,CE,zq,zp⟩:=fb.p;have hH:ro Hb=some (.cells ⟨[W.a0,W.a1,W.a2,.slice rI xs.length ru,W.a4,zI W.D,zI W.S,.slice iu es.length ia,(.slice W.ha W.H W.iR),.slice fQ ls.length fg,.slice iD ps.length g9]⟩ 113 (0,0)):=by rw[<-Bm,<-Bo,<-hle,<-CL];exact fb.h
 have hn3:=fb.n3;have R5:=fb.e5;have FC:=fb.ll;have xE:=fb.pl;have hDD:=fb.d;have hN:=avB (show es.length<=5 by omega);have hA:=azu (show ne<=5 by omega);refine aed bE [] [] c9<|zD 8<|zxp [zP Hb] (λhs=>ahi (fb.up hs))<|zD 11<|jl (b:=Hb) (off:=0) (m:=11) (vs:=[W.a0,W.a1,W.a2,.slice rI xs.length ru,W.a4,zI W.D,zI W.S,.slice iu es.length ia,(.slice W.ha W.H W.iR),.slice fQ ls.length fg,.slice iD ps.length g9]) 7 ⟨_,_,_,.inl hH,rfl⟩<|zD 1<|jsh (k:= .i64) (k':= .i64) (a:=1) (b:=(es.length:Int)) 3 (by omega)<|zD 3<|iE [1,0,1,1,0,1,0,0] [] (λ(zz:Nat×Int)=>[(1,(.func (.func f) ⟨fi⟩ ⟨ca⟩)),(4,zS),(5,.int .u8 zz.2),(18,zI (iA .i64 1 (es.length:Int))),(19,zI (zz.1:Int))]) (λzz=>[]) (λzz=>zz.1<=2^es.length/\(0<=zz.2/\zz.2 <32)/\zz.2=CV tst ne zz.1) (λzz=>2^es.length-zz.1) (⟨0,(allM ne)⟩) ⟨Nat.zero_le _,hA,rfl⟩ [] ?_;rintro⟨c,b⟩ hI K1 cX rest;dsimp only at hI;refine zD 5<|zJ 20 ((c:Int) <(iA .i64 1 (es.length:Int))) (λh1=>?_) λh1=>?_
 ·
  refine zD 16<|jw 7 (.int .u8 (c:Int)) (aMX (by omega))<|zD 2<|zxp [.int .u8 (c:Int)] (λhs=>aBp (by omega))<|zD 1<|zxp [.int .u8 b] (λhs=>aBp (by omega))<|zD 10<|js 31 (decide ((pL (c:Int))>(pL b))) (λh2=>?_) (λh2=>?_)
  ·
   have n6:=h2;replace n6:=of_decide_eq_true n6;refine zD 22<|zW ((c:Int)+1)<|zD 2<|zF cX (⟨c+1,b⟩) ⟨by dsimp only;omega,by dsimp only;rw[CV,<-hI.2.2];exact(show wK tst b (c:Int)=_ by rw[wK,decide_eq_true (p:=pL (c:Int)>pL b) (by omega)];rfl).symm⟩ []
  have n6:=h2;replace n6:=ah n6;refine zD 4<|js 35 (decide ((pL (c:Int))=(pL b))) (λh3=>?_) (λh3=>?_)
  ·
   have wC:=h3;replace wC:=ai wC;refine zD 1<|jc (vs:=[.int .u8 (c:Int)]) [] (ad9 (f:=(c:Int))) ?_;rintro v37 L37 aSv;obtain⟨aDS,aDL,aH4⟩:=aSv.form;subst aH4;refine zD 1<|jc (vs:=[.int .u8 b]) [] (ad9 (f:=b)) ?_;rintro v39 L39 aSu;obtain⟨bab,aZV,ayh⟩:=aSu.form;subst ayh;refine jp (vs:=[(.slice aDS (mw (c:Int) 5).length aDL),(.slice bab (mw b 5).length aZV)]) [1,0] (L37++L39) (λcK hs hZ=>bee (aSv.jI hZ.left) (aSu.jI hZ.right) (by have:=J8 (c:Int) 5;omega) (by have:=J8 b 5;omega)) ?_;refine zD 4<|js 44 (decide ((y4 (mw (c:Int) 5) (mw b 5))>=0)) (λh4=>?_) (λh4=>?_)
   ·
    have KJ:=h4;replace KJ:=of_decide_eq_true KJ;refine zD 9<|zW ((c:Int)+1)<|zD 2<|zF cX (⟨c+1,b⟩) ⟨by dsimp only;omega,by dsimp only;rw[CV,<-hI.2.2];exact(show wK tst b (c:Int)=_ by rw[wK,decide_eq_false (p:=pL (c:Int)>pL b) (by omega),decide_eq_true (p:=pL (c:Int)=pL b) (by omega),decide_eq_true (p:=y4 (mw (c:Int) 5) (mw b 5)>=0) (by omega)];rfl).symm⟩ []
   have KJ:=h4;replace KJ:=ah KJ;refine zD 2<|jcF (vs:=fi++[Value.int .u8 (c:Int)]++ca) [] Jm (ht _ _ (Sub.refl _)) ?_;rintro _ _ ⟨rfl,rfl⟩;refine jg 0 []<|zD 3<|js 49 (!(tst (c:Int))) (λh5=>?_) (λh5=>?_)
   ·
    try simp only[zB] at h5
    refine zD 3<|zW ((c:Int)+1)<|zD 2<|zF cX (⟨c+1,b⟩) ⟨by dsimp only;omega,by dsimp only;rw[CV,<-hI.2.2];exact(show wK tst b (c:Int)=_ by rw[wK,decide_eq_false (p:=pL (c:Int)>pL b) (by omega),decide_eq_true (p:=pL (c:Int)=pL b) (by omega),decide_eq_false (p:=y4 (mw (c:Int) 5) (mw b 5)>=0) (by omega),show tst (c:Int)=false from by assumption];rfl).symm⟩ []
   try simp only[zB] at h5
   refine zD 7<|zW ((c:Int)+1)<|zD 2<|zF cX (⟨c+1,(c:Int)⟩) ⟨by dsimp only;omega,by dsimp only;rw[CV,<-hI.2.2];exact(show wK tst b (c:Int)=_ by rw[wK,decide_eq_false (p:=pL (c:Int)>pL b) (by omega),decide_eq_true (p:=pL (c:Int)=pL b) (by omega),decide_eq_false (p:=y4 (mw (c:Int) 5) (mw b 5)>=0) (by omega),show tst (c:Int)=true from by assumption];rfl).symm⟩ []
  have wC:=h3;replace wC:=ah wC;refine zD 11<|jcF (vs:=fi++[Value.int .u8 (c:Int)]++ca) [] Jm (ht _ _ (Sub.refl _)) ?_;rintro _ _ ⟨rfl,rfl⟩;refine jg 0 []<|zD 3<|js 49 (!(tst (c:Int))) (λh6=>?_) (λh6=>?_)
  ·
   try simp only[zB] at h6
   refine zD 3<|zW ((c:Int)+1)<|zD 2<|zF cX (⟨c+1,b⟩) ⟨by dsimp only;omega,by dsimp only;rw[CV,<-hI.2.2];exact(show wK tst b (c:Int)=_ by rw[wK,decide_eq_false (p:=pL (c:Int)>pL b) (by omega),decide_eq_false (p:=pL (c:Int)=pL b) (by omega),show tst (c:Int)=false from by assumption];rfl).symm⟩ []
  try simp only[zB] at h6
  refine zD 7<|zW ((c:Int)+1)<|zD 2<|zF cX (⟨c+1,(c:Int)⟩) ⟨by dsimp only;omega,by dsimp only;rw[CV,<-hI.2.2];exact(show wK tst b (c:Int)=_ by rw[wK,decide_eq_false (p:=pL (c:Int)>pL b) (by omega),decide_eq_false (p:=pL (c:Int)=pL b) (by omega),show tst (c:Int)=true from by assumption];rfl).symm⟩ []
 refine zD 5<|jc (vs:=[.int .u8 b]) [] (ad9 (f:=b)) ?_;rintro v53 L53 aSs;obtain⟨aZ7,aZR,bgM⟩:=aSs.form;subst bgM;refine zD 3<|jrM qm0 ((.slice aZ7 (mw b 5).length aZR)) [] [] [0] L53 (Sub.refl _) ⟨_,by rw[KU,<-wz,show 2^es.length=c by omega,wz,<-hI.2.2];exact aSs,rfl⟩
def OS(K:eQ)(c:Int):Bool:= !(mg K (oK .u8 (allM K.bO.length) c)).isEmpty
theorem Bi.emp{K:eQ}{W:ky}{ls:List cy}{ps:List eH}(h:Bi ro Hb K W u ls ps)(need:Int):(j9 W.D ls (wZ K) K.aU.length ps.length need).isEmpty=(mg K need).isEmpty:=(h.Sm need).isEmpty_eq
def awY{K:eQ}{W:ky}{ls:List cy}{ps:List eH}{c:Int}(hI:Bi ro Hb K W u ls ps)(g1:ro b1=some (.cells ⟨[zP Hb]⟩ 103 (0,0))):eW zT 79 [.int .u8 c,zP b1] ro [] (λr Y=>r= .bool (OS K c)/\Y=[]):=by
 refine zE<|zD 6<|jl (b:=b1) (off:=0) (m:=1) (vs:=[zP Hb]) 0 ⟨_,_,_,.inl g1,rfl⟩<|jl (b:=b1) (off:=0) (m:=1) (vs:=[zP Hb]) 0 ⟨_,_,_,.inl g1,rfl⟩<|zD 1<|zxp [zP Hb] (λhs=>ahi (hI.r.up hs))<|zD 1<|zxo 5 λtT=>jc (vs:=[zP Hb,.int .u8 (oK .u8 (allM K.bO.length) c)]) [] (aBl (need:=(oK .u8 (allM K.bO.length) c)) hI.r) ?_;rintro _ _ ⟨rfl,rfl⟩;rw[hI.emp (oK .u8 (allM K.bO.length) c)];refine jg 0 []<|eP tT []<|zD 3<|zX _ ⟨rfl,rfl⟩
def ahh{K:eQ}(hK:yl ro l K)(hV:wF K):RP zT 22 [.agg ⟨l⟩] ro [] (λr Y=>∃v,r= .tuple ⟨[v,zI 0]⟩/\bJ v 1 3 eI (KU (OS K) K.bO.length) Y):=by
 have cX:=hK;obtain⟨vS,vT,vP,vR,vE,fa,fc,rfl,hS,hT,hp,hr,he⟩:=hK;have C9:=hp;have he0:=he;have Ae:=hr;obtain⟨iD,zr,zo,g9,rfl,CE,zq,zp⟩:=hp;obtain⟨iu,zu,zt,ia,rfl,Je,yu,yt⟩:=he;have hpp:=hV.Nr;have Oi:=hV.days;have Bo:=hV.bO;refine SF bE [] [] c9 λfr=>zD 2<|jn λb1=>jd 6 [0]<|SG (vs:=[.agg ⟨[vS,vT,.slice fa 0 fc,.slice iD K.aU.length g9,vR,zI K.days,zI K.stay,.slice iu K.bO.length ia]⟩]) [] (λ_ _ h=>h) (aea cX hV) ?_;rintro _ cK _ fq ⟨Hb,W,u,ls,ps,rfl,yW,rfl⟩;have KA:=yW.Sm (allM K.bO.length);have Qz:=KA.length_eq;refine jg 0 []<|zD 3<|jn λb4=>jd 2 [0]<|jf [0] [(b4,.cells ⟨[zP Hb]⟩ 103 (0,0))] λro4 s8 hk3=>zD 11<|jl (b:=b4) (off:=0) (m:=1) (vs:=[zP Hb]) 0 ⟨_,_,_,.inl (hk3 _ (.head _)),rfl⟩<|zD 1<|jc (vs:=[zP Hb,.func (.func 79) ⟨[]⟩ ⟨[zP b4]⟩]) [] (aw6 (f:=79) (fi:=[]) (ca:=[zP b4]) (tst:=(OS K)) (yW.r.up s8) (by kernel_rfl) (λbU c hs=>awY (yW.up (s8.trans hs)) (hs _ _ (hk3 _ (.head _))))) ?_;rintro v77 L77 ⟨_,aSp,rfl⟩;obtain⟨aZ5,aZP,bgH⟩:=aSp.form;subst bgH;refine zD 4<|jrC qC.a.a (.tuple ⟨[(.slice aZ5 (KU (OS K) K.bO.length).length aZP),zI 0]⟩) [0,2] L77 (fq.trans s8) ⟨_,rfl,aSp⟩
def jcO{X:Cx}{o:Option JS}{v:Value}{enc:α->List Value}{ps:List α}{lo:Int}(hs:dq X.ro v sz enc ps)(hl:0<=lo/\lo<=ps.length)(hj:∀v',dq X.ro v' sz enc (ps.drop lo.toNat)->J X (lT v' o))(hv:fp X.n (adb X.P X.n) o=some (v,some lo,none,sz):=by kernel_rfl):J X o:=by
 obtain⟨a,b,off,cap,rfl,h2,h3,h4⟩:=id hs;have hp:=dq.part hs (l:=lo.toNat) (h:=ps.length) (by omega) (bu _);rw[List.take_length] at hp;refine SH hv (λs p e _ hf=>?_) (hj _ hp);obtain⟨T,x,y,z,E,s1,dL,zz,ag,d,CX,z2,ag2,a8,tf,tK,hx,hy,hz⟩:=HN hf;obtain⟨y,k,rfl,MD⟩:=lE hy;have hz:=AU hz;subst hz;rcases p with ⟨dst,op,ty,pos,fX,g⟩
 dsimp only at a8;subst a8;intro s0 ops i vy rest hw s' pq todo Q hk;refine eA X.hC vy hw (by simp) ?_;have hb:(0:Int)<=(ps.length:Int)/\(ps.length:Int)<=(cap:Int):=by omega
 have kQ:0<=lo/\lo<=(ps.length:Int):=hl;rw[<-dF] at hk;simp only[execOp,di,j7,Instr.sliceAt,Instr.slice,bZ (cM (rest:=rest) hx),bZ (cM (rest:=rest) MD),aH,cY tf,Instr.sliceBounds,Instr.sliceBound,asIntOf,aQ,hb,kQ,LC,dI,ez tK];exact hk
def qG(x y:ax):Bool:=decide (x.n <y.n)||(decide (x.n=y.n)&&decide (x.l <y.l))
theorem I3{x y:ax}:qG x y=true↔mH x y:=by simp[qG,mH]
theorem afL{x y:ax}(h:qG x y=false)(eo:x≠y):mH y x:=by
 rcases x with ⟨a,b⟩;rcases y with ⟨c,d⟩
 grind [qG,mH]
def Fc{l:List ax}{k:Nat}{x:ax}(h:l.Pairwise mH)(h1:∀y∈l.take k,mH y x)(h2:k=l.length\/∃y,l[k]?=some y/\mH x y):(l.take k++[x]++l.drop k).Pairwise mH:=by
 have hb:∀y∈l.drop k,mH x y:=λy hy=>by
  rcases h2 with rfl| ⟨z,hz,hx⟩
  .simp at hy
  rw[lg hz] at hy;rcases aS.1 hy with rfl|hy
  .exact hx
  have:=(oU.1 (show (z::l.drop (k+1)).Pairwise mH by rw[<-lg hz];exact h.sublist (List.drop_sublist _ _))).1 y hy;simp only[mH] at*;omega
 rw[bC];refine List.pairwise_append.2 ⟨h.sublist (List.take_sublist _ _),oU.2 ⟨hb,h.sublist (List.drop_sublist _ _)⟩,λa ha b mz=>?_⟩;rcases aS.1 mz with rfl|mz
 .exact h1 a ha
 have:=h1 a ha;have:=hb b mz;simp only[mH] at*;omega
theorem aog{x y:ax}(h:(!(x.n==y.n&&(x.l==y.l&&true)))=true):x≠y:=by grind
theorem ET{p:α->Prop}{l:List α}{k:Nat}{x:α}(h:∀y∈l,p y)(hx:p x):∀y∈l.take k++[x]++l.drop k,p y:=by grind
theorem bJ.cap{a:Option Addr}{n c:Nat}{T:TypeId}{enc:α->List Value}{ps:List α}{L:Cells}(h:bJ (.slice a n c) sz T enc ps L):n=ps.length/\n<=c:=by
 rcases h with ⟨h,rfl,_⟩| ⟨b,l,cap,h,_,_,h4,_⟩
 all_goals grind
abbrev HdR(w:Value)(l:List aP):Prop:=∃a c,w= .slice a l.length c/\l.length<=c
def An(x:ax):Prop:=(1<=x.n/\x.n<=9)/\0<=x.l/\x.l<=2
def We{x y:ax}:iz zT 219 [.agg ⟨[zI x.n,zI x.l]⟩,.agg ⟨[zI y.n,zI y.l]⟩] ro (.bool (qG x y)):=by
 refine zE<|zD 2<|jn λb2=>jn λb3=>jd 10 [1,0]<|js 10 (decide (x.n <y.n)) (λh1=>?_) (λh1=>?_)
 ·
  have mA:=h1;replace mA:=ai mA;refine zD 16<|zX (.bool true) ⟨by simp_all[qG],rfl⟩
 have mA:=h1;replace mA:=ah mA;refine jd 6 [1,0]<|js 16 (decide (x.n=y.n)) (λh2=>?_) (λh2=>?_)
 ·
  have n6:=h2;replace n6:=ai n6;refine jd 10 [1,0]<|zX (.bool (decide (x.l <y.l))) ⟨by simp_all[qG],rfl⟩
 have n6:=h2;replace n6:=ah n6;refine zD 10<|zX (.bool false) ⟨by simp_all[qG],rfl⟩
def aRe{m:Int}(hn:0<=n/\n<=1000)(hm:1<=m/\m<=1000):iz zT 220 [zI n,zI m] ro (zI (Int.tmod n m)):=by
 have hnn:=wI m hn.1;refine zE<|zD 8<|jrm (k:= .i64) (a:=n) (b:=m) 3 (by omega)<|zD 8<|zJ 9 ((Int.tmod n m) <0) (λh1=>?_) λh1=>?_
 ·
  exfalso;omega
 refine zD 8<|zX _ ⟨rfl,rfl⟩
def Bc{X:Cells}{v:Value}{l:List ax}(hN:Dn ro vd xs)(hD:fo vd xs d X)(hl:dq ro v 2 cu l)(Ah:l.length<=100):eW zT 221 [zP d,v] ro X (λr Y=>∃a b,r= .agg ⟨[zI a,zI b]⟩/\fo vd xs d Y):=by
 obtain⟨fQ,rK,rJ,fg,rfl,tJ,nj,nY⟩:=hl;refine zC [.l X]<|zD 2<|jn λb4=>zD 8<|js 8 (decide ((l.length:Int)=0)) (λh1=>?_) (λh1=>?_)
 ·
  have mA:=h1;replace mA:=ai mA;refine zD 8<|jc (vs:=[zP d,zI 1,zI 9]) [1] (Ee hN hD (by omega) (by omega)) ?_;rintro _ X13 ⟨w13,rfl,akb,aep,ae2⟩;refine jd 4 [1]<|zR (.agg ⟨[zI w13,zI 0]⟩) [1] [0] _ ⟨_,_,rfl,ae2⟩
 have mA:=h1;replace mA:=ah mA;refine zD 1<|jc (vs:=[zP d,zI 12]) [1] (abG hN hD (by omega)) ?_;rintro _ X10 ⟨Js,rfl,KH⟩;refine zD 2<|js 11 Js (λh2=>?_) (λh2=>?_)
 ·
  subst h2;refine zD 4<|jc (vs:=[zP d,zI 1,zI 9]) [0] (Ee hN KH (by omega) (by omega)) ?_;rintro _ X13 ⟨w13,rfl,akb,aep,ae2⟩;refine jd 4 [1]<|zR (.agg ⟨[zI w13,zI 0]⟩) [1] [0] _ ⟨_,_,rfl,ae2⟩
 subst h2;refine zD 8<|zW ((l.length:Int)-1)<|jc (vs:=[zP d,zI ((l.length:Int)-1)]) [0] (dTo hN KH (by omega)) ?_;rintro _ X20 ⟨w20,rfl,aRP,q6,akH⟩;obtain⟨x21,aRG⟩:=zG l (w20.toNat);refine jsi w20 fg 2 nj aRG (by omega)<|jl 0 (nY _ _ aRG)<|jd 3 [1]<|zR (.agg ⟨[zI x21.n,zI x21.l]⟩) [1] [0] _ ⟨_,_,rfl,akH⟩
def ay9{X:Cells}{pO:Int}(hN:Dn ro vd xs)(hD:fo vd xs d X)(hm:0<=pO/\pO<=3):eW zT 159 [zP d,zI pO] ro X (λr Y=>∃(ps:List ax) (L X':Cells),bJ r 2 39 cu ps L/\(ps.length:Int)<=pO/\ps.Pairwise mH/\(∀x∈ps,An x)/\Y=L++X'/\fo vd xs d X'):=by
 refine zC [.l X]<|zD 13<|jc (vs:=[zP d,zI pO]) [0] (dTo hN hD (by omega)) ?_;rintro _ X11 ⟨w11,rfl,aRR,aaC,aJh⟩;refine zD 3<|wN<|iE [1,1,0,1,0,0] [] (λ(zz:Int×Value×Cells×(List ax)×Cells)=>[(0,zP d),(4,zS),(5,zz.2.1),(6,zI zz.1)]) (λzz=>[.l zz.2.2.1,.l zz.2.2.2.2]) (λzz=>(0<=zz.1/\zz.2.2.2.1.length+zz.1<=pO)/\bJ zz.2.1 2 39 cu zz.2.2.2.1 zz.2.2.1/\zz.2.2.2.1.Pairwise mH/\(∀x∈zz.2.2.2.1,An x)/\fo vd xs d zz.2.2.2.2) (λzz=>zz.1.toNat) (⟨w11,zS,[],[],X11⟩) ⟨by simp only[List.length_nil];omega,bJ.nil _ _ _,.nil,(λ_ h=>by cases h),aJh⟩ [0,1] ?_;rintro⟨j,v,L,ps,X⟩ hI K1 cX rest;dsimp only at hI;refine zD 6<|zJ 13 (j>0) (λh1=>?_) λh1=>?_
 ·
  refine zD 7<|jc (vs:=[zP d,zI 1,zI 9]) [1] (Ee hN hI.2.2.2.2 (by omega) (by omega)) ?_;rintro _ X17 ⟨w17,rfl,aRQ,Nw,aJg⟩;refine zD 1<|jn λb7=>jd 6 [0]<|jc (vs:=[zP d,zI 4]) [1] (abG hN aJg (by omega)) ?_;rintro _ X20 ⟨w20,rfl,akH⟩;refine zD 1<|jct [1,1,0,1,0,0,1,0,0,1,1] [K1] (λ(zz:Int×Int×Cells)=>[(0,zP d),(4,zS),(5,v),(6,zI j),(7,zP b7)]) (λzz=>[zxc b7 39 [zI zz.1,zI zz.2.1],.l L,.l zz.2.2]) (λzz=>An ⟨zz.1,zz.2.1⟩/\fo vd xs d zz.2.2) ?_ (λK2 mb=>?_)
  ·
   rintro⟨n,q,X⟩ hQ rest;dsimp only at hQ;refine zD 6<|iE [1,1,0,1,0,0,1,0,0,1,1,1,0,0,0] [K1] (λ(zz:Nat)=>[(0,zP d),(4,zS),(5,v),(6,zI j),(7,zP b7),(8,zI (zz:Int))]) (λzz=>[zxc b7 39 [zI n,zI q],.l L,.l X]) (λzz=>zz<=ps.length/\(∀y∈ps.take zz,mH y ⟨n,q⟩)) (λzz=>ps.length-zz) 0 ⟨Nat.zero_le _,λ_ h=>by simp at h⟩ [0,1,2] ?_;rintro k hR K3 FI rest;refine zD 5<|jol hI.2.1<|zD 2<|js 4 (decide ((k:Int) <(ps.length:Int))) (λh2=>?_) (λh2=>?_)
   ·
    have n6:=h2;replace n6:=ai n6;refine zD 2 ?_;obtain⟨Jq,Aa⟩:=zG ps k;refine jxo 2 hI.2.1 Aa λb31 bhs=>zx 0 [1] L (λs _ hZ=>lS hI.2.1 bhs hZ Aa)<|jd 1 [0]<|zxp [.agg ⟨[zI Jq.n,zI Jq.l]⟩,.agg ⟨[zI n,zI q]⟩] (λhs=>(We (x:=Jq) (y:=⟨n,q⟩)))<|zD 2<|js 35 (qG Jq ⟨n,q⟩) (λh3=>?_) (λh3=>?_)
    ·
     refine zD 5<|zW ((k:Int)+1)<|zD 2<|zY FI (k+1) ⟨by omega,I4 hR.2 Aa (I3.1 (by simp_all))⟩ [0,1,2]
    refine zD 6<|jol hI.2.1<|zD 2<|js 4 (decide ((k:Int)=(ps.length:Int))) (λh4=>?_) (λh4=>?_)
    ·
     have KJ:=h4;replace KJ:=ai KJ;exfalso;omega
    have KJ:=h4;replace KJ:=ah KJ;refine zD 2 ?_;obtain⟨xI,sC⟩:=zG ps k;refine jxo 2 hI.2.1 sC λb45 aeP=>zx 0 [1] L (λs _ hZ=>lS hI.2.1 aeP hZ sC)<|jd 1 [0]<|jne GF (ye xI.n xI.l n q)<|zD 2<|js 49 (!(xI.n==n&&(xI.l==q&&true))) (λh5=>?_) (λh5=>?_)
    ·
     try simp only[zB] at h5
     refine zD 1<|jf [1] L (λro8 SL hk7=>?_);have hzp:=hI.2.1.jI hk7;obtain⟨yB,Gx,Gv,vY,rfl,Gw,CC,Cz⟩:=hzp;refine zD 3<|jcH (hi:=(k:Int)) (show dq _ _ _ _ _ from ⟨yB,Gx,Gv,vY,rfl,Gw,CC,Cz⟩) (by omega) (λv53 aG4=>?_);obtain⟨AP,Ps,Po,AO,rfl,aOW,Pq,Pp⟩:=aG4;refine jd 3 [0]<|jcO (lo:=(k:Int)) (show dq _ _ _ _ _ from ⟨yB,Gx,Gv,vY,rfl,Gw,CC,Cz⟩) (by omega) (λv60 aG2=>?_);obtain⟨AK,Pg,Pd,AJ,rfl,aOU,Pf,Pe⟩:=aG2;refine xB [0,6] ⟨λ_ _ KB=>?_,λ_ _ hL9=>?_,bW⟩
     ·
      refine jn λb50=>eP KB [1,2]<|xB [4,6] ⟨λ_ _ WQ=>?_,λ_ _ WO=>?_,bW⟩
      ·
       refine zxq cu b50 39 0 AO Pq Pp λOL OI ym fS=>eE WQ [[1]]<|zxo 6 λQE=>jn λb56=>eP QE [1,2,3]<|zxo 7 λKC=>zxl cu b56 (⟨n,q⟩:ax) 1 0 (fS) λYv Yt L57 qi=>eE KC []<|zxo 11 λae0=>zxk cu 0 AJ (qi) Pf Pe λDh Dg L61 lV=>eE ae0 []<|zD 4<|zW (j-1)<|zD 2<|dY cX (⟨(j-1),(.slice Dh (((((ps).take (k:Int).toNat)++[(⟨n,q⟩:ax)])++((ps).drop (k:Int).toNat))).length Dg),L61,((((ps).take (k:Int).toNat)++[(⟨n,q⟩:ax)])++((ps).drop (k:Int).toNat)),X⟩) ⟨by dsimp only;simp only[List.length_append,List.length_take,List.length_drop,List.length_cons,List.length_nil];omega,by simpa only[Int.toNat_natCast,List.nil_append] using lV,Fc hI.2.2.1 hR.2 (.inr ⟨_,sC,afL (by simp_all) (aog (by simp_all))⟩),ET hI.2.2.2.1 hQ.1,hQ.2⟩ (by dsimp only;omega) [0,3] SL
      refine jn λb56=>eP WO [1,2,3]<|zxo 4 λWN=>zxq cu b50 39 1 AO Pq Pp λOL OI ym fS=>eE WN []<|zxo 7 λQC=>zxl cu b56 (⟨n,q⟩:ax) 0 1 (fS) λYv Yt L57 qi=>eE QC []<|zxo 11 λarz=>zxk cu 0 AJ (qi) Pf Pe λDh Dg L61 lV=>eE arz []<|zD 4<|zW (j-1)<|zD 2<|dY cX (⟨(j-1),(.slice Dh (((((ps).take (k:Int).toNat)++[(⟨n,q⟩:ax)])++((ps).drop (k:Int).toNat))).length Dg),L61,((((ps).take (k:Int).toNat)++[(⟨n,q⟩:ax)])++((ps).drop (k:Int).toNat)),X⟩) ⟨by dsimp only;simp only[List.length_append,List.length_take,List.length_drop,List.length_cons,List.length_nil];omega,by simpa only[Int.toNat_natCast,List.nil_append] using lV,Fc hI.2.2.1 hR.2 (.inr ⟨_,sC,afL (by simp_all) (aog (by simp_all))⟩),ET hI.2.2.2.1 hQ.1,hQ.2⟩ (by dsimp only;omega) [0,3] SL
     refine jn λb56=>eP hL9 [1,2]<|zxo 0 λWM=>jn λb50=>eP WM [1,2,3]<|zxo 4 λWL=>zxq cu b50 39 0 AO Pq Pp λOL OI ym fS=>eE WL []<|zxo 7 λary=>zxl cu b56 (⟨n,q⟩:ax) 0 1 (fS) λYv Yt L57 qi=>eE ary []<|zxo 11 λaeZ=>zxk cu 0 AJ (qi) Pf Pe λDh Dg L61 lV=>eE aeZ []<|zD 4<|zW (j-1)<|zD 2<|dY cX (⟨(j-1),(.slice Dh (((((ps).take (k:Int).toNat)++[(⟨n,q⟩:ax)])++((ps).drop (k:Int).toNat))).length Dg),L61,((((ps).take (k:Int).toNat)++[(⟨n,q⟩:ax)])++((ps).drop (k:Int).toNat)),X⟩) ⟨by dsimp only;simp only[List.length_append,List.length_take,List.length_drop,List.length_cons,List.length_nil];omega,by simpa only[Int.toNat_natCast,List.nil_append] using lV,Fc hI.2.2.1 hR.2 (.inr ⟨_,sC,afL (by simp_all) (aog (by simp_all))⟩),ET hI.2.2.2.1 hQ.1,hQ.2⟩ (by dsimp only;omega) [0,3] SL
    try simp only[zB] at h5
    refine zD 4<|zW (j-1)<|zD 2<|zF cX (⟨(j-1),v,L,ps,X⟩) ⟨hI.2.1,hI.2.2.1,hI.2.2.2.1,hQ.2⟩ [1,2]
   have n6:=h2;replace n6:=ah n6;refine zD 14<|jol hI.2.1<|zD 2<|js 4 (decide ((k:Int)=(ps.length:Int))) (λWS=>?_) (λWS=>?_)
   ·
    have QH:=WS;replace QH:=ai QH;refine zD 9<|jf [1] L (λbp5 aG6 bf8=>?_);have hzp:=hI.2.1.jI bf8;obtain⟨yB,Gx,Gv,vY,rfl,Gw,CC,Cz⟩:=hzp;refine zD 3<|jcH (hi:=(k:Int)) (show dq _ _ _ _ _ from ⟨yB,Gx,Gv,vY,rfl,Gw,CC,Cz⟩) (by omega) (λv53 aG4=>?_);obtain⟨AP,Ps,Po,AO,rfl,aOW,Pq,Pp⟩:=aG4;refine jd 3 [0]<|jcO (lo:=(k:Int)) (show dq _ _ _ _ _ from ⟨yB,Gx,Gv,vY,rfl,Gw,CC,Cz⟩) (by omega) (λv60 aG2=>?_);obtain⟨AK,Pg,Pd,AJ,rfl,aOU,Pf,Pe⟩:=aG2;refine xB [0,6] ⟨λ_ _ aeY=>?_,λ_ _ aeW=>?_,bW⟩
    ·
     refine jn λb50=>eP aeY [1,2]<|xB [4,6] ⟨λ_ _ aru=>?_,λ_ _ ars=>?_,bW⟩
     ·
      refine zxq cu b50 39 0 AO Pq Pp λOL OI ym fS=>eE aru [[1]]<|zxo 6 λWJ=>jn λb56=>eP WJ [1,2,3]<|zxo 7 λarq=>zxl cu b56 (⟨n,q⟩:ax) 1 0 (fS) λYv Yt L57 qi=>eE arq []<|zxo 11 λarp=>zxk cu 0 AJ (qi) Pf Pe λDh Dg L61 lV=>eE arp []<|zD 4<|zW (j-1)<|zD 2<|dY cX (⟨(j-1),(.slice Dh (((((ps).take (k:Int).toNat)++[(⟨n,q⟩:ax)])++((ps).drop (k:Int).toNat))).length Dg),L61,((((ps).take (k:Int).toNat)++[(⟨n,q⟩:ax)])++((ps).drop (k:Int).toNat)),X⟩) ⟨by dsimp only;simp only[List.length_append,List.length_take,List.length_drop,List.length_cons,List.length_nil];omega,by simpa only[Int.toNat_natCast,List.nil_append] using lV,Fc hI.2.2.1 hR.2 (.inl (by omega)),ET hI.2.2.2.1 hQ.1,hQ.2⟩ (by dsimp only;omega) [0,3] aG6
     refine jn λb56=>eP ars [1,2,3]<|zxo 4 λWI=>zxq cu b50 39 1 AO Pq Pp λOL OI ym fS=>eE WI []<|zxo 7 λaro=>zxl cu b56 (⟨n,q⟩:ax) 0 1 (fS) λYv Yt L57 qi=>eE aro []<|zxo 11 λarn=>zxk cu 0 AJ (qi) Pf Pe λDh Dg L61 lV=>eE arn []<|zD 4<|zW (j-1)<|zD 2<|dY cX (⟨(j-1),(.slice Dh (((((ps).take (k:Int).toNat)++[(⟨n,q⟩:ax)])++((ps).drop (k:Int).toNat))).length Dg),L61,((((ps).take (k:Int).toNat)++[(⟨n,q⟩:ax)])++((ps).drop (k:Int).toNat)),X⟩) ⟨by dsimp only;simp only[List.length_append,List.length_take,List.length_drop,List.length_cons,List.length_nil];omega,by simpa only[Int.toNat_natCast,List.nil_append] using lV,Fc hI.2.2.1 hR.2 (.inl (by omega)),ET hI.2.2.2.1 hQ.1,hQ.2⟩ (by dsimp only;omega) [0,3] aG6
    refine jn λb56=>eP aeW [1,2]<|zxo 0 λWH=>jn λb50=>eP WH [1,2,3]<|zxo 4 λaeT=>zxq cu b50 39 0 AO Pq Pp λOL OI ym fS=>eE aeT []<|zxo 7 λaeS=>zxl cu b56 (⟨n,q⟩:ax) 0 1 (fS) λYv Yt L57 qi=>eE aeS []<|zxo 11 λaeR=>zxk cu 0 AJ (qi) Pf Pe λDh Dg L61 lV=>eE aeR []<|zD 4<|zW (j-1)<|zD 2<|dY cX (⟨(j-1),(.slice Dh (((((ps).take (k:Int).toNat)++[(⟨n,q⟩:ax)])++((ps).drop (k:Int).toNat))).length Dg),L61,((((ps).take (k:Int).toNat)++[(⟨n,q⟩:ax)])++((ps).drop (k:Int).toNat)),X⟩) ⟨by dsimp only;simp only[List.length_append,List.length_take,List.length_drop,List.length_cons,List.length_nil];omega,by simpa only[Int.toNat_natCast,List.nil_append] using lV,Fc hI.2.2.1 hR.2 (.inl (by omega)),ET hI.2.2.2.1 hQ.1,hQ.2⟩ (by dsimp only;omega) [0,3] aG6
   have QH:=WS;replace QH:=ah QH;exfalso;omega
  refine js 20 w20 (λh41=>?_) (λh41=>?_)
  ·
   subst h41;refine zD 3<|jc (vs:=[zP d,zI 1,zI 2]) [0] (Ee hN akH (by omega) (by omega)) ?_;rintro _ X22 ⟨w22,rfl,bst,iQ,bim⟩;refine jd 3 [1]<|zY mb ⟨w17,w22,X22⟩ ⟨⟨by dsimp only;omega,by dsimp only;omega⟩,bim⟩ [1,2,0]
  subst h41;refine zD 2<|zY mb ⟨w17,0,X20⟩ ⟨⟨by dsimp only;omega,by dsimp only;omega⟩,akH⟩ [1,2,0]
 refine zD 8<|zR _ [] [0,1] _ ⟨_,_,_,hI.2.1,(by omega),hI.2.2.1,hI.2.2.2.1,rfl,hI.2.2.2.2⟩
end Go.L
