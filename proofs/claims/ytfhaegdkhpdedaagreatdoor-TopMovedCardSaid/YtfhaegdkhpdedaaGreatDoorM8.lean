/- Part 8 of the proof. -/
import Derived.Test.YtfhaegdkhpdedaaGreatDoorM7
import Derived.Test.YtfhaegdkhpdedaaGreatDoorProg
set_option maxRecDepth 100000
set_option maxHeartbeats 4000000
set_option linter.all false
namespace Go.L
open Go Go.Conc Go.Proofs
variable {ro:Nat→Option Obj} {α κ β:Type} {Z LM Z2:Cells} {n c5 c6 ck b t l lim hi:Int} {i rm o j:Nat} {rs:List gA} {vl:Value} {na nb:ByteArray} {T:TypeId} {seen:List Nat} {xs:List Int}
def uqN(rs:List gA)(a to:ByteArray):Nat->Nat->Option Nat
 |0,_=>none
 |f+1,m=>bif decide (0 <(Yg rs to m a []).length) then some m else uqN rs a to f (m+1)
def uq(rs:List gA)(a to:ByteArray):Option Nat:=uqN rs a to 3 0
def pJ(c:UInt8):ByteArray:=if c.toNat=67 then bs [99,104] else if c.toNat=74 then bs [106,117] else if c.toNat=89 then bs [106,97] else if c.toNat=88 then bs [115,104] else if c.toNat <97 then bs [c.toNat+32] else bs [c.toNat]
def SE:List UInt8->ByteArray->ByteArray
 | [],a=>a
 |c::l,a=>SE l (a++pJ c)
def keyOf(w:ByteArray):ByteArray:=SE w.data.toList (bs [])
theorem axa{l:List UInt8}{k:Nat}{c:UInt8}{a:ByteArray}(h:l[k]?=some c):SE (l.drop k) a=SE (l.drop (k+1)) (a++pJ c):=by rw[lg h];rfl
theorem apB{l:List UInt8}{k:Nat}{a:ByteArray}(h:l[k]?=none):SE (l.drop k) a=a:=by rw[pz (by grind)];rfl
def HG(rs:List gA)(a b:ByteArray):Int:=match uq rs (keyOf a) (keyOf b) with
 |none=>2
 |some 0=>1
 |some _=>3
structure rj(w:ByteArray):Prop where
 n:1<=w.size/\w.size<=6
 s:Script w
def ad4(c:UInt8):Prop:=Nt c=true\/PM c=true
def rj.let{w:ByteArray}(h:rj w):∀c∈w.data.toList,ad4 c:=λc hc=>h.s.elim (λk=> .inl (k c hc)) λk=> .inr (k c hc)
def aiY:((List.range 256).all λn=> !(Nt (UInt8.ofNat n)||PM (UInt8.ofNat n))||(awN (pJ (UInt8.ofNat n))&&(Nat.ble 1 (pJ (UInt8.ofNat n)).size&&Nat.ble (pJ (UInt8.ofNat n)).size 2)))=true:=by kernel_rfl
def YP{c:UInt8}(h:ad4 c):Ff (pJ c)/\1<=(pJ c).size/\(pJ c).size<=2:=by
 have h2:=c8.1 aiY _ (ee.2 c.toNat_lt);have h3:(Nt c||PM c)=true:=by rcases h with h|h<;>simp[h]
 simp_all[adX]
theorem ahl:∀ {l:List UInt8} {a:ByteArray},(∀c∈l,ad4 c)->Ff a->Ff (SE l a)/\(SE l a).size<=a.size+2*l.length
 | [],a,_,ha=>⟨ha,by simp[SE]⟩
 |c::l,a,h,ha=>by
  have h1:=YP (h c (by simp));obtain⟨h2,h3⟩:=ahl (l:=l) (λx hx=>h x (by grind)) (ha.app h1.1)
  grind [SE,ByteArray.size_append,aK]
theorem aan{w:ByteArray}(h:rj w):Ff (keyOf w)/\(keyOf w).size<=12:=by
 have h1:=ahl (a:=bs []) h.let (λb hb=>by cases hb);have h2:w.data.toList.length=w.size:=Ym;have h3:=h.n;exact⟨h1.1,by have e:(bs []).size=0:=rfl;grind [keyOf]⟩
theorem awM{c:UInt8}(h:ad4 c)(h1:¬(c.toNat:Int)=67)(h2:¬(c.toNat:Int)=74)(h3:¬(c.toNat:Int)=89)(h4:¬(c.toNat:Int)=88):apf c=pJ c:=by
 simp only[apf,pJ,cJ (show ¬c.toNat=67 by omega),cJ (show ¬c.toNat=74 by omega),cJ (show ¬c.toNat=89 by omega),cJ (show ¬c.toNat=88 by omega)];split
 .simp only[akZ,bs];rw[Ax .u8 rfl _ (by omega) (by simp[IntKind.bits];omega),show ((c.toNat:Int)+32).toNat=c.toNat+32 by omega];rfl
 simp[BI,bs]
def let_128{c:UInt8}(h:ad4 c):c.toNat <128:=by
 rcases h with h|h
 .simp only[Nt,au,Cg] at h;omega
 simp only[PM,au,Cg] at h;omega
def aFJ{c:UInt8}(h:ad4 c):iz zT 227 [.int .i32 (c.toNat:Int)] ro (.string (pJ c)):=by
 refine zE<|zD 29<|zJ 5 ((c.toNat:Int)=67) (λh1=>?_) λh1=>?_
 ·
  refine zD 8<|zX (.string (bs [99,104])) ⟨by rw[pJ,dW (by omega)]<;>rfl,rfl⟩
 refine zD 8<|zJ 7 ((c.toNat:Int)=74) (λh2=>?_) λh2=>?_
 ·
  refine zD 17<|jsa (a:=(bs [106])) (b:=(bs [117])) 9 (by decide)<|zD 3<|zX (.string ((bs [106])++(bs [117]))) ⟨by rw[pJ,cJ (by omega),dW (by omega)]<;>rfl,rfl⟩
 refine zD 8<|zJ 9 ((c.toNat:Int)=89) (λh3=>?_) λh3=>?_
 ·
  refine zD 16<|jsa (a:=(bs [106])) (b:=(bs [97])) 9 (by decide)<|zD 3<|zX (.string ((bs [106])++(bs [97]))) ⟨by rw[pJ,cJ (by omega),cJ (by omega),dW (by omega)]<;>rfl,rfl⟩
 refine zD 7<|zJ 11 ((c.toNat:Int)=88) (λh4=>?_) λh4=>?_
 ·
  refine zD 8<|zX (.string (bs [115,104])) ⟨by rw[pJ,cJ (by omega),cJ (by omega),cJ (by omega),dW (by omega)]<;>rfl,rfl⟩
 refine zD 6<|je (.string (BI c)) (ay2 (let_128 h))<|zxp [.string (BI c)] (λhs=>(biB h))<|zD 3<|zX (.string (apf c)) ⟨by rw[awM h (by omega) (by omega) (by omega) (by omega)],rfl⟩
def awG{w to:ByteArray}(hl:dq ro vl 2 jT rs)(hR:∀r∈rs,zg r)(hw:Ff w)(xD:w.size<=100)(hq:rs.length<=100):eW zT 179 [.string w,vl,.string to] ro [] (λr Y=>(∃n v ps,uq rs w to=some n/\r= .tuple ⟨[v,.bool true]⟩/\bJ v 1 9 nU ps Y/\ps.length=n+1)\/(uq rs w to=none/\r= .tuple ⟨[zS,.bool false]⟩/\Y=[])):=by
 obtain⟨fQ,rK,rJ,fg,rfl,tJ,nj,nY⟩:=hl;refine zE<|zD 11<|iE [1,0,1,0,0] [] (λ(zz:Nat)=>[(0,.string w),(1,.slice fQ rs.length fg),(2,.string to),(11,zI (zz:Int))]) (λzz=>[]) (λzz=>zz<=3/\uq rs w to=uqN rs w to (3-zz) zz) (λzz=>3-zz) 0 ⟨by omega,rfl⟩ [] ?_;rintro k hI K1 cX rest;refine zD 5<|zJ 12 ((k:Int) <3) (λh1=>?_) λh1=>?_
 ·
  refine zD 15<|jc (vs:=[.string w,.slice fQ rs.length fg,.string to,zI (k:Int)]) [] (aoY (show dq _ _ _ _ _ from ⟨fQ,rK,rJ,fg,rfl,tJ,nj,nY⟩)) ?_;rintro _ _ ⟨ape,apd,apc,apb,rfl,rfl⟩;refine jg 0 [zxc ape 263 [.string w],zxc apd 30 [.slice fQ rs.length fg],zxc apc 263 [.string to],zxc apb 3 [zI (k:Int)]]<|jf (zN 0 4) ((ape,.cells ⟨[.string w]⟩ 263 (0,0))::((apd,.cells ⟨[.slice fQ rs.length fg]⟩ 30 (0,0))::((apc,.cells ⟨[.string to]⟩ 263 (0,0))::[(apb,.cells ⟨[zI (k:Int)]⟩ 3 (0,0))]))) λro4 s8 hk3=>jc (vs:=[.func (.func 271) ⟨[]⟩ ⟨[zP apb,zP apc,zP apd,zP ape]⟩,.func (.func 230) ⟨[]⟩ ⟨[]⟩]) [] (aFL (ajK (hk3 _ (.tail _ (.tail _ (.tail _ (.head _))))) (hk3 _ (.tail _ (.tail _ (.head _)))) (hk3 _ (.tail _ (.head _))) (hk3 _ (.head _)) ((show dq _ _ _ _ _ from ⟨fQ,rK,rJ,fg,rfl,tJ,nj,nY⟩).up s8) hR hw xD hq (by omega)) (λx hx=>by have:=Xp hx;simp at this;omega)) ?_;rintro _ L20 ⟨v20,rfl,bcQ,aqC,aHA⟩;refine zD 10<|js 23 (decide (0 <(Yg rs to k w []).length)) (λh5=>?_) (λh5=>?_)
  ·
   refine zD 8<|bY q0.a (.tuple ⟨[v20,.bool true]⟩) [] [0] L20 s8 ⟨_,_,rfl,rfl,.inl ⟨k,v20,bcQ,by rw[hI.2,show 3-k=(3-(k+1))+1 by omega,uqN,h5];rfl,rfl,aqC,by have:=Xp (aHA (ai h5));simpa using this⟩⟩
  refine zD 3<|zW ((k:Int)+1)<|zD 2<|dY cX (k+1) ⟨by omega,by rw[hI.2,show 3-k=(3-(k+1))+1 by omega,uqN,h5];rfl⟩ (by omega) [] s8
 refine zD 8<|zX _ (.inr ⟨by rw[hI.2,show 3-k=0 by omega];rfl,rfl,rfl⟩)
def aFX{c:UInt8}(h:ad4 c):c.toNat <128:=by
 rcases h with h|h
 .simp only[Nt,au,Cg] at h;omega
 simp only[PM,au,Cg] at h;omega
theorem aFM{w to:ByteArray}(hl:dq ro vl 2 jT rs)(hR:∀r∈rs,zg r)(hw:Ff w)(xD:w.size<=100)(hq:rs.length<=100):eW zT 179 [.string w,vl,.string to] ro [] (λr Y=>∃v ps ok,r= .tuple ⟨[v,.bool ok]⟩/\bJ v 1 9 nU ps Y/\(ok=true->uq rs w to=some (ps.length-1)/\1<=ps.length)/\(ok=false->uq rs w to=none)):=by
 refine(awG hl hR hw xD hq).mono λ_ _ h=>?_;rcases h with ⟨n,v,ps,h1,h2,h3,h4⟩| ⟨h1,h2,h3⟩
 .grind
 subst h3;exact⟨_,[],false,h2,bJ.nil _ _ _,nofun,λ_=>h1⟩
def uN(rs:List gA)(a b:ByteArray):Int:=match uq rs a b with
 |some n=>n
 |none=>0
def uE(rs:List gA)(a b:ByteArray):Int:=match uq rs a b with
 |some _=>0
 |none=>11
theorem az7{a to:ByteArray}:∀ {f m n:Nat},uqN rs a to f m=some n->n <m+f
 |0,_,_,h=>by cases h
 |f+1,m,n,h=>by
  simp only[uqN] at h;cases hd:decide (0 <(Yg rs to m a []).length) with
  |true=>grind
  |false=>rw[hd] at h;have:=az7 h;omega
def nOf{w:ByteArray}(hw:rj w):iz zT 178 [.string w] ro (.string (keyOf w)):=by
 refine zE<|zD 12<|jn λr7=>zD 2<|iE [1,1,0,1,0,0] [] (λ(zz:Nat×ByteArray)=>[(2,.string (bs [])),(3,.string zz.2),(7,zP r7)]) (λzz=>[.b r7 (.stringIter w zz.1)]) (λzz=>(zz.1<=w.data.toList.length/\zz.2.size<=2*zz.1)/\keyOf w=SE (w.data.toList.drop zz.1) zz.2) (λzz=>w.data.toList.length-zz.1) (⟨0,(bs [])⟩) ⟨⟨by omega,Nat.le_refl _⟩,rfl⟩ [0] ?_;rintro⟨p,a⟩ hI K1 cX rest;dsimp only at hI;refine zD 2 ?_;cases hn8:w.data.toList[p]? with
 |some x8=>
  refine jnA r7 0 hn8 (aFX (hw.let _ (zL hn8)))<|zD 11 ?_;have hso:=YP (hw.let _ (zL hn8));have hlen:w.data.toList.length=w.size:=Array.length_toList;have hwn:=hw.n;refine zD 3<|zxp [.int .i32 (x8.toNat:Int)] (λhs=>(aFJ (hw.let _ (zL hn8))))<|jsa (a:=a) (b:=(pJ x8)) 9 (by omega)<|zD 2<|dY cX (⟨p+1,(a++pJ x8)⟩) ⟨⟨by have:=(List.getElem?_eq_some_iff.1 hn8).1;dsimp only;omega,by dsimp only;rw[ByteArray.size_append];omega⟩,by rw[hI.2,axa hn8]⟩ (by have:=(List.getElem?_eq_some_iff.1 hn8).1;dsimp only;omega) [0] (Sub.refl _)
 |none=>
  refine jnZ r7 0 hn8<|zD 11<|zX _ ⟨by rw[hI.2,apB hn8],rfl⟩
def awF(hl:dq ro vl 2 jT rs)(hR:∀r∈rs,zg r)(hq:rs.length<=4)(hna:rj na)(hnb:rj nb):eW zT 132 [vl,.string na,.string nb] ro [] (λr Y=>∃v ps e,r= .tuple ⟨[v,zI e]⟩/\bJ v 1 9 nU ps Y/\ps.length<=3/\((e=0/\uq rs (keyOf na) (keyOf nb)=some (ps.length-1)/\1<=ps.length)\/(e=11/\uq rs (keyOf na) (keyOf nb)=none))):=by
 obtain⟨fQ,rK,rJ,fg,rfl,tJ,nj,nY⟩:=hl;refine zE<|zD 9<|zxp [.slice fQ rs.length fg] (λhs=>ajI ((show dq _ _ _ _ _ from ⟨fQ,rK,rJ,fg,rfl,tJ,nj,nY⟩).up hs) (by omega) hR)<|zD 14<|jn λXx=>jp (vs:=[.slice (some ⟨Xx,0,none⟩) 2 2]) [0] [(Xx,.cells ⟨([na,nb].map nU).flatten⟩ 9 (0,0))] (λcK hs hZ=>aoX (fK [na,nb] hZ.head (by intro p hp;rfl)) (by first|omega| (simp only[aO,zM];omega)) (by intro x hx;simp only[aS,mj,aZ] at hx;rcases hx with rfl|rfl;exact⟨hna.n,hna.s⟩;exact⟨hnb.n,hnb.s⟩)) ?_;refine zD 12<|zxp [.string na] (λhs=>(nOf hna))<|zD 2<|zxp [.string nb] (λhs=>(nOf hnb))<|jc (vs:=[.string (keyOf na),.slice fQ rs.length fg,.string (keyOf nb)]) [] (aFM (show dq _ _ _ _ _ from ⟨fQ,rK,rJ,fg,rfl,tJ,nj,nY⟩) hR (aan hna).1 (by have:=(aan hna).2;omega) (by omega)) ?_;rintro _ L30 ⟨v30,bcP,bcX,rfl,aaO,aGz,bek⟩;refine zD 12<|js 34 (!bcX) (λh1=>?_) (λh1=>?_)
 ·
  try simp only[zB] at h1
  refine zD 7<|zX _ ⟨_,[],_,rfl,bJ.nil _ _ _,by simp,.inr ⟨rfl,bek (by simp_all)⟩⟩
 try simp only[zB] at h1
 refine zD 9<|zR _ [] [0] _ ⟨_,bcP,_,rfl,aaO,by have:=az7 (aGz (by simp_all)).1;have:=(aGz (by simp_all)).2;omega,.inl ⟨rfl,aGz (by simp_all)⟩⟩
def aPZ(hl:dq ro vl 2 jT rs)(hR:∀r∈rs,zg r)(hq:rs.length<=4)(hna:rj na)(hnb:rj nb):iz zT 96 [vl,.string na,.string nb] ro (.tuple ⟨[zI (uN rs (keyOf na) (keyOf nb)),zI (uE rs (keyOf na) (keyOf nb))]⟩):=by
 obtain⟨fQ,rK,rJ,fg,rfl,tJ,nj,nY⟩:=hl;refine zE<|zD 10<|jc (vs:=[.slice fQ rs.length fg,.string na,.string nb]) [] (awF (show dq _ _ _ _ _ from ⟨fQ,rK,rJ,fg,rfl,tJ,nj,nY⟩) hR hq hna hnb) ?_;rintro _ Ao ⟨RS,Nq,e14,rfl,Kj,bsZ,mX⟩;refine zD 12<|js 18 (!decide (e14=0)) (λh1=>?_) (λh1=>?_)
 ·
  replace h1:=ah (by simpa using h1);refine zD 8<|zX (.tuple ⟨[zI 0,zI e14]⟩) ⟨by rcases mX with ⟨h1,h2,h3⟩| ⟨h1,h2⟩<;>simp only[uN,uE,h2]<;>(subst h1;simp_all<;>omega),rfl⟩
 replace h1:=ai (by simpa using h1);refine zD 5<|jol Kj<|zW ((Nq.length:Int)-1)<|zD 4<|zX (.tuple ⟨[zI ((Nq.length:Int)-1),zI 0]⟩) ⟨by rcases mX with ⟨h1,h2,h3⟩| ⟨h1,h2⟩<;>simp only[uN,uE,h2]<;>(subst h1;simp_all<;>omega),rfl⟩
def ZX(hl:dq ro vl 2 jT rs)(hR:∀r∈rs,zg r)(hq:rs.length<=4)(hna:rj na)(hnb:rj nb):iz zT 40 [vl,.string na,.string nb] ro (.tuple ⟨[zI (HG rs na nb),zI 0]⟩):=by
 obtain⟨fQ,rK,rJ,fg,rfl,tJ,nj,nY⟩:=hl;refine zE<|zD 10<|zxp [.slice fQ rs.length fg,.string na,.string nb] (λhs=>aPZ ((show dq _ _ _ _ _ from ⟨fQ,rK,rJ,fg,rfl,tJ,nj,nY⟩).up hs) hR hq hna hnb)<|zD 14<|zJ 17 ((uE rs (keyOf na) (keyOf nb))=11) (λh1=>?_) λh1=>?_
 ·
  refine zD 7<|zX (.tuple ⟨[zI 2,zI 0]⟩) ⟨by simp only[uN,uE,HG] at*;rcases huq:uq rs (keyOf na) (keyOf nb) with _|_|n<;>simp_all<;>omega,rfl⟩
 refine zD 7<|js 20 (!decide ((uE rs (keyOf na) (keyOf nb))=0)) (λh2=>?_) (λh2=>?_)
 ·
  replace h2:=ah (by simpa using h2);refine zD 8<|zX (.tuple ⟨[zI 0,zI (uE rs (keyOf na) (keyOf nb))]⟩) ⟨by simp only[uN,uE,HG] at*;rcases huq:uq rs (keyOf na) (keyOf nb) with _|_|n<;>simp_all<;>omega,rfl⟩
 replace h2:=ai (by simpa using h2);refine zD 7<|zJ 24 ((uN rs (keyOf na) (keyOf nb))=0) (λh3=>?_) λh3=>?_
 ·
  refine zD 7<|zX (.tuple ⟨[zI 1,zI 0]⟩) ⟨by simp only[uN,uE,HG] at*;rcases huq:uq rs (keyOf na) (keyOf nb) with _|_|n<;>simp_all<;>omega,rfl⟩
 refine zD 8<|zX (.tuple ⟨[zI 3,zI 0]⟩) ⟨by simp only[uN,uE,HG] at*;rcases huq:uq rs (keyOf na) (keyOf nb) with _|_|n<;>simp_all<;>omega,rfl⟩
def at6(ro:Nat->Option Obj)(v:Value)(W:List (List Int)):Prop:=∃ws,dq ro v 1 ri ws/\kA (λw l=>dq ro w 1 eI l) ws W
def tN(a b:Int):Int:=if a <b then-1 else if a>b then 1 else 0
def orL:List Int->Int
 | []=>0
 |x::l=>if x=0 then orL l else x
theorem aot{l:List Int}{k:Nat}{x:Int}(h:l[k]?=some x):orL (l.drop k)=if x=0 then orL (l.drop (k+1)) else x:=by rw[lg h];rfl
theorem awi{l:List Int}{k:Nat}(h:¬k <l.length):orL (l.drop k)=0:=by rw[pz h];rfl
def NP(x y:ax):Int:=orL [tN x.n y.n,tN x.l y.l]
def azh{x y:ax}(h:mH x y):NP x y <0:=by
 rcases h with h| ⟨h1,h2⟩
 .have e:tN x.n y.n= -1:=dW h;simp[NP,orL,e]
 have e:tN x.n y.n=0:=by simp only[tN];rw[cJ (by omega),cJ (by omega)]
 have e2:tN x.l y.l= -1:=dW h2;simp[NP,orL,e,e2]
def aJC{a:Int}:iz zT 217 [zI a] ro (.bool false):=by
 refine zE<|zD 12<|zX (.bool (!decide (a=a))) ⟨by simp,rfl⟩
def ayH{a:Int}:iz zT 157 [zI a,zI b] ro (zI (tN a b)):=by
 refine zE<|zD 7<|zxp [zI a] (λhs=>aJC)<|zD 5<|zxp [zI b] (λhs=>aJC)<|zD 23<|zJ 16 (a <b) (λh1=>?_) λh1=>?_
 ·
  refine zD 6<|zX _ ⟨by simp only[tN];first|rw[dW (by omega)]|rw[cJ (by omega),dW (by omega)]|rw[cJ (by omega),cJ (by omega)],rfl⟩
 refine zD 9<|zJ 19 (a>b) (λh2=>?_) λh2=>?_
 ·
  refine zD 6<|zX _ ⟨by simp only[tN];first|rw[dW (by omega)]|rw[cJ (by omega),dW (by omega)]|rw[cJ (by omega),cJ (by omega)],rfl⟩
 refine zD 7<|zX _ ⟨by simp only[tN];first|rw[dW (by omega)]|rw[cJ (by omega),dW (by omega)]|rw[cJ (by omega),cJ (by omega)],rfl⟩
def gOr{v:Value}(hl:dq ro v 1 eI xs)(hn:xs.length<=1000):iz zT 181 [v] ro (zI (orL xs)):=by
 obtain⟨fQ,rK,rJ,fg,rfl,tJ,nj,nY⟩:=hl;refine zE<|zD 16<|iE [1,1,0,1,0,0] [] (λ(zz:Nat)=>[(3,zI 0),(6,.slice fQ xs.length fg),(7,zI (xs.length:Int)),(8,zI (zz:Int))]) (λzz=>[]) (λzz=>zz<=xs.length/\orL xs=orL (xs.drop zz)) (λzz=>xs.length-zz) 0 ⟨by omega,rfl⟩ [] ?_;rintro k hI K1 cX rest;refine zD 5<|zJ 9 ((k:Int) <(xs.length:Int)) (λh1=>?_) λh1=>?_
 ·
  refine zD 6<|zxt xs k fg 1 nj nY λx10 Kg=>zD 8<|js 14 (!decide (x10=0)) (λh2=>?_) (λh2=>?_)
  ·
   replace h2:=ah (by simpa using h2);refine zD 7<|zX _ ⟨by rw[hI.2,aot Kg,cJ (by simp_all)],rfl⟩
  replace h2:=ai (by simpa using h2);refine zD 3<|zW ((k:Int)+1)<|zD 2<|zY cX (k+1) ⟨by omega,by rw[hI.2,aot Kg,dW (by simp_all)]⟩ []
 refine zD 8<|zX _ ⟨by rw[hI.2,awi (by omega)],rfl⟩
def asz{x y:ax}:iz zT 182 [.agg ⟨[zI x.n,zI x.l]⟩,.agg ⟨[zI y.n,zI y.l]⟩] ro (zI (NP x y)):=by
 refine zE<|zD 2<|jn λb2=>jn λb3=>jd 12 [1,0,1,0]<|zxp [zI x.n,zI y.n] (λhs=>ayH)<|zxp [zI x.l,zI y.l] (λhs=>ayH)<|zxo 10 λtT=>jn λxH=>eP tT [1,2]<|jp (vs:=[.slice (some ⟨xH,0,none⟩) 2 2]) [0] [(xH,.cells ⟨([(tN x.n y.n),(tN x.l y.l)].map eI).flatten⟩ 3 (0,0))] (λcK hs hZ=>gOr (fK [(tN x.n y.n),(tN x.l y.l)] hZ.head (by intro p hp;rfl)) (by first|omega| (simp only[aO,zM];omega))) ?_;refine zD 3<|zX _ ⟨rfl,rfl⟩
def ayI{lo:Int}:iz zT 164 [zI n,zI lo,zI hi] ro (.bool (pF n lo hi)):=by
 refine zE<|zD 10<|jj 4 [(6,.bool false),(14,.bool ((decide (lo<=n))&&(decide (n<=hi))))] (λni=>?_) (λhj=>?_);rotate_left;refine js 10 (decide (lo<=n)) (λh1=>?_) (λh1=>?_)
 ·
  have mA:=h1;replace mA:=ai mA;refine zD 4<|zxw 14 hj (zya h1)
 ·
  have mA:=h1;replace mA:=ah mA;refine zD 4<|zxw 14 hj (zyb h1)
 refine zD 3<|zX _ ⟨rfl,rfl⟩
def aJA{x:ax}(hx:p7 x):iz zT 166 [.agg ⟨[zI x.n,zI x.l]⟩] ro (.bool true):=by
 obtain⟨⟨hx1,hx2⟩,hx3,hx4⟩:=hx;refine zE<|zD 2<|jn λb1=>jd 6 [0]<|zxp [zI x.n,zI 1,zI 40] (λhs=>ayI)<|zD 1<|jj 4 [(2,.bool false),(10,.bool ((pF x.n 1 40)&&(pF x.l 0 4)))] (λni=>?_) (λhj=>?_);rotate_left;refine js 6 (pF x.n 1 40) (λh1=>?_) (λh1=>?_)
 ·
  refine jd 2 [0]<|zxp [zI x.l,zI 0,zI 4] (λhs=>ayI)<|zD 1<|zxw 10 hj (zya h1)
 ·
  refine zD 4<|zxw 10 hj (zyb h1)
 refine zD 3<|zX (.bool ((pF x.n 1 40)&&(pF x.l 0 4))) ⟨by simp only[pF,Value.bool.injEq,au,aA];omega,rfl⟩
def asA{v:Value}{S:List (List ax)}(hS:bH ro v S)(hO:cg S):iz zT 163 [.agg ⟨[v]⟩] ro (zI 0):=by
 obtain⟨ws,ht,dO⟩:=hS;obtain⟨fP,we,vZ,eL,rfl,v9,nE,nD⟩:=ht;have Ah:=dO.len;have mM:=hO.two;refine zE<|zD 2<|jn λb1=>jd 10 [0]<|zJ 10 ((ws.length:Int)=0) (λh1=>?_) λh1=>?_
 ·
  exfalso;omega
 refine jd 10 [0]<|zJ 14 ((ws.length:Int)>3) (λh2=>?_) λh2=>?_
 ·
  exfalso;omega
 refine jd 11 [0]<|iE [1,1,1,0,1,0,0] [] (λ(zz:Nat)=>[(16,.slice fP ws.length eL),(17,zI (ws.length:Int)),(18,zI (zz:Int))]) (λzz=>[zxc b1 24 [.slice fP ws.length eL]]) (λzz=>zz<=ws.length) (λzz=>ws.length-zz) 0 (by omega) [0] ?_;rintro k hI K1 cX rest;refine zD 5<|zJ 19 ((k:Int) <(ws.length:Int)) (λh3=>?_) λh3=>?_
 ·
  refine zD 6<|zxs ws k eL 1 nE (λsI q6=>?_);obtain⟨l21,aHH,h21⟩:=dO.get q6;obtain aSJ:=hO.len _ (zL aHH);obtain beH:=hO.ok _ (zL aHH);obtain beD:=hO.Sb _ (zL aHH);obtain⟨aPl,brf,brd,av4,rfl,bre,aPk,aPj⟩:=h21;refine jl 0 (nD _ _ q6)<|zD 9<|zJ 24 ((l21.length:Int)>8) (λh4=>?_) λh4=>?_
  ·
   exfalso;omega
  refine zD 9<|iE [1,1,1,0,1,0,0,1,1,0,0,1,1,1,0,0] [K1] (λ(zz:Nat)=>[(4,.slice aPl l21.length av4),(16,.slice fP ws.length eL),(17,zI (ws.length:Int)),(18,zI (k:Int)),(25,.slice aPl l21.length av4),(26,zI (l21.length:Int)),(27,zI (zz:Int))]) (λzz=>[zxc b1 24 [.slice fP ws.length eL]]) (λzz=>zz<=l21.length) (λzz=>l21.length-zz) 0 (by omega) [0] ?_;rintro i hJ K2 mb rest;refine zD 5<|zJ 28 ((i:Int) <(l21.length:Int)) (λh5=>?_) λh5=>?_
  ·
   refine zD 7<|zxt l21 i av4 2 aPk aPj λFp s7=>jn λb6=>jd 7 [0,0]<|zxp [.agg ⟨[zI Fp.n,zI Fp.l]⟩] (λhs=>(aJA (x:=Fp) (beH _ (zL s7))))<|zD 9<|js 2 (decide ((i:Int)>0)) (λh6=>?_) (λh6=>?_)
   ·
    have G5:=h6;replace G5:=ai G5;refine zD 2<|zW ((i:Int)-1) ?_;obtain⟨x41,aaA⟩:=zG l21 (((i:Int)-1).toNat);refine jsi ((i:Int)-1) av4 2 aPk aaA (by omega)<|jl 0 (aPj _ _ aaA)<|jd 1 [0]<|zxp [.agg ⟨[zI x41.n,zI x41.l]⟩,.agg ⟨[zI Fp.n,zI Fp.l]⟩] (λhs=>(asz (x:=x41) (y:=Fp)))<|zD 3<|zJ 46 ((NP x41 Fp)>=0) (λh7=>?_) λh7=>?_
    ·
     exfalso;have:=azh (wh beD (show ((i:Int)-1).toNat <i by omega) aaA s7);simp_all;omega
    refine zD 3<|zW ((i:Int)+1)<|zD 2<|zY mb (i+1) (by omega) [1]
   have G5:=h6;replace G5:=ah G5;refine zD 13<|zW ((i:Int)+1)<|zD 2<|zY mb (i+1) (by omega) [1]
  refine zD 3<|zW ((k:Int)+1)<|zD 2<|zY cX (k+1) (by omega) [0]
 refine zD 7<|zX _ ⟨rfl,rfl⟩
abbrev mh(x:ar):Value:= .agg ⟨bL x⟩
instance:DecidableEq ar:=λx y=>match x,y with
 | ⟨a,b,c⟩,⟨d,e,f⟩=>if h:a=d/\b=e/\c=f then isTrue (by obtain⟨rfl,rfl,rfl⟩:=h;rfl) else isFalse λk=>h (by cases k;exact⟨rfl,rfl,rfl⟩)
def eV(s:Int)(x:ax):ar:=⟨s,x.n,x.l⟩
def C8(S:List (List ax)):Nat->List ar
 |0=>[]
 |k+1=>C8 S k++(match S[k]? with
  |some l=>l.map (eV k)
  |none=>[])
def aI(S:List (List ax)):List ar:=C8 S S.length
theorem Qf{S:List (List ax)}{k:Nat}{l:List ax}(h:S[k]?=some l):C8 S (k+1)=C8 S k++l.map (eV k):=by grind [C8]
theorem u1{S:List (List ax)}{x:ar}:∀ {k:Nat},x∈C8 S k↔∃j l p,j <k/\S[j]?=some l/\p∈l/\x=eV j p
 |0=>by simp[C8]
 |k+1=>by
  simp only[C8,bI,u1]
  grind
theorem BW{S:List (List ax)}{l:List ax}{p:ax}(h1:S[j]?=some l) (h2:p∈l):eV j p∈aI S:=u1.2 ⟨j,l,p,(aB.1 h1).1,h1,h2,rfl⟩
theorem Ab{S:List (List ax)}(hO:cg S):∀k,(C8 S k).Nodup
 |0=>Sd
 |k+1=>by
  simp only[C8];refine eF.2 ⟨Ab hO k,?_,λx hx y hy e=>?_⟩
  .split
   .rename_i l hl;refine LD.2 ((hO.Sb l (zL hl)).imp λ{a b} h e=>?_);simp only[eV,ar.mk.injEq] at e;rcases h with h|h<;>omega
   exact Sd
  subst e;obtain⟨j,l,p,h1,_,_,rfl⟩:=u1.1 hx
  grind [eV,ar.mk.injEq]
theorem EV{S:List (List ax)}(hO:cg S):∀k,(C8 S k).length<=6*k
 |0=>by simp[C8]
 |k+1=>by
  have:=EV hO k;simp only[C8];split
  .rename_i l hl;have:=hO.len l (zL hl)
   grind
  simp;omega
theorem Qp{S:List (List ax)}(hO:cg S):(aI S).length<=12:=by
 have:=EV hO S.length;have:=hO.two
 grind [aI]
def aU6(a b:ar):EqD zT 10000 41 (mh a) (mh b) (decide (a=b)):=by
 have h:=(B3 (qV Tryz.typeInfo41 Tryz.underlying41 rfl rfl rfl rfl rfl rfl) Tryz.stoodInHeld41 (.cons (by decide) (oJ rF rfl) (oJ rF rfl) (tq rF _ _) (.cons (by decide) (BF (qV Tryz.typeInfo39 Tryz.underlying39 rfl rfl rfl rfl rfl rfl) rfl) (BF (qV Tryz.typeInfo39 Tryz.underlying39 rfl rfl rfl rfl rfl rfl) rfl) (aby _ _ _ _ 9997) .nil)):EqD zT 10000 41 (mh a) (mh b) _);have e:(a.h==b.h&&((a.n==b.n&&(a.l==b.l&&true))&&true))=decide (a=b):=by
  rcases a with ⟨x,y,z⟩;rcases b with ⟨u,v,w⟩
  rw[Gk];simp
 rwa[e] at h
def bi3(a:ar):CkD zT 10000 41 (mh a):=
 abN (qV Tryz.typeInfo41 Tryz.underlying41 rfl rfl rfl rfl rfl rfl) (.cons (by decide) (oJ rF rfl) (MY rF _) (.cons (by decide) (BF (qV Tryz.typeInfo39 Tryz.underlying39 rfl rfl rfl rfl rfl rfl) rfl) (abN (dep:=9998) (qV Tryz.typeInfo39 Tryz.underlying39 rfl rfl rfl rfl rfl rfl) (.cons (by decide) (oJ rF rfl) (MY rF _) (.cons (by decide) (oJ rF rfl) (MY rF _) .nil))) .nil))
def wM:XP zT 41 mh:=apE (qV Tryz.typeInfo41 Tryz.underlying41 rfl rfl rfl rfl rfl rfl) (λk=>⟨_,rfl⟩) bi3 aU6 (λk=>by simp[Instr.sameBits])
def MV(Z:Cells)(F:List (ar×Value))(g:ar->List ar):Prop:=∀bU,Knows bU Z->∀x∈F,dq bU x.2 3 bL (g x.1)
def rO(x:ar):List ar:=[x]
theorem QP[DecidableEq κ]{k:κ}:∀ {F:List (κ×Value)} {i:Nat},k∈F.map (·.1)->∃j v,tV k F i=some (j,v)
 | [],_,h=>by cases h
 |x::F,i,h=>by
  simp only[tV];split
  .simp
  refine QP ?_
  grind
theorem Oc[DecidableEq κ]{k:κ}{F:List (κ×Value)}(h:k∈F.map (·.1)):∃v,lkM k F=some v/\(k,v)∈F:=by
 obtain⟨j,v,h1⟩:=QP (i:=0) h;exact⟨v,by grind [lkM],zL (th h1).2⟩
theorem HI[DecidableEq κ]{k:κ}{v:Value}{F:List (κ×Value)}(h:k∉F.map (·.1)):jL k v F=F++[(k,v)]:=by
 have:tV k F 0=none:=by
  cases hf:tV k F 0 with
  |none=>rfl
  |some y=>exact absurd (dR (zL (th hf).2)) h
 grind [jL]
def OP[DecidableEq κ]{k:κ}{v:Value}{F:List (κ×Value)}(h:k∈F.map (·.1))(hn:(F.map (·.1)).Nodup):(jL k v F).map (·.1)=F.map (·.1)/\∀x∈jL k v F,x=(k,v)\/(x∈F/\x.1≠k):=by
 obtain⟨j,u,h1⟩:=QP (i:=0) h;have h2:=(th h1).2;rw[Nat.sub_zero] at h2;obtain⟨hj,SV⟩:=aB.1 h2;simp only[jL,h1,HP];refine⟨?_,λx hx=>?_⟩
 .rw[C2];refine pH λi=>?_;rw[List.getElem?_set];split
  .rename_i hi;subst hi;simp[h2,hj,SV]
  rfl
 obtain⟨i,hi⟩:=dA hx;rw[List.getElem?_set] at hi;split at hi
 .cases hi;exact .inl rfl
 rename_i Of;refine .inr ⟨zL hi,λe=>Of ?_⟩;obtain⟨hi1,R3⟩:=aB.1 hi;exact(RR (xs:=F.map (·.1)) (h₀:=by simpa using hj) (h₁:=by simpa using hi1) hn).1 (by simp[SV,R3,e])
theorem MV.set{F:List (ar×Value)}{g:ar->List ar}(h:MV Z F g){k:ar}{y:List ar}{v:Value}(hk:k∈F.map (·.1))(hn:(F.map (·.1)).Nodup)(hv:∀bU,Knows bU Z2->dq bU v 3 bL y):MV (Z++Z2) (jL k v F) (λx=>if x=k then y else g x):=λbU hr x hx=>by
 rcases(OP hk hn).2 x hx with rfl| ⟨h1,h2⟩
 .simp;exact hv bU hr.right
 simp_all;exact h bU hr.left x h1
theorem MV.add{F:List (ar×Value)}{g:ar->List ar}(h:MV Z F g){k:ar}{v:Value}(hv:∀bU,Knows bU Z2->dq bU v 3 bL (g k)):MV (Z++Z2) (F++[(k,v)]) g:=λbU hr x hx=>by
 rcases bI.1 hx with h1|h1
 .exact h bU hr.left x h1
 rw[aV] at h1;subst h1;exact hv bU hr.right
def aUV{v:Value}(hl:dq ro v 1 eI xs)(hn:xs.length<=1000):eW zT 171 [v] ro [] (λr Y=>bJ r 1 3 eI xs Y):=by
 obtain⟨fQ,rK,rJ,fg,rfl,tJ,nj,nY⟩:=hl;refine zE<|zD 8<|jsn 45 (a:=fQ) (l:=xs.length) (c:=fg)<|zD 1<|js 4 (fQ.isNone) (λh1=>?_) (λh1=>?_)
 ·
  refine zD 6<|zX _ (by rw[yS nj (by assumption)];exact bJ.nil _ _ _)
 refine zD 4<|jn λb5=>zD 1<|zxq eI b5 3 0 fg nj nY λva7 vc7 L7 xX=>zD 3<|zR _ [] [0] L7 xX
def biD{v:Value}{xs:List ax}(hl:dq ro v 2 cu xs)(hn:xs.length<=1000):eW zT 122 [v] ro [] (λr Y=>bJ r 2 39 cu xs Y):=by
 obtain⟨fQ,rK,rJ,fg,rfl,tJ,nj,nY⟩:=hl;refine zE<|zD 8<|jsn 98 (a:=fQ) (l:=xs.length) (c:=fg)<|zD 1<|js 4 (fQ.isNone) (λh1=>?_) (λh1=>?_)
 ·
  refine zD 6<|zX _ (by rw[yS nj (by assumption)];exact bJ.nil _ _ _)
 refine zD 4<|jn λb5=>zD 1<|zxq cu b5 39 0 fg nj nY λva7 vc7 L7 xX=>zD 3<|zR _ [] [0] L7 xX
def biE{v:Value}{xs:List ar}(hl:dq ro v 3 bL xs)(hn:xs.length<=1000):eW zT 134 [v] ro [] (λr Y=>bJ r 3 41 bL xs Y):=by
 obtain⟨fQ,rK,rJ,fg,rfl,tJ,nj,nY⟩:=hl;refine zE<|zD 8<|jsn 70 (a:=fQ) (l:=xs.length) (c:=fg)<|zD 1<|js 4 (fQ.isNone) (λh1=>?_) (λh1=>?_)
 ·
  refine zD 6<|zX _ (by rw[yS nj (by assumption)];exact bJ.nil _ _ _)
 refine zD 4<|jn λb5=>zD 1<|zxq bL b5 41 0 fg nj nY λva7 vc7 L7 xX=>zD 3<|zR _ [] [0] L7 xX
def ayG{v:Value}{S:List (List ax)}(hS:bH ro v S)(hO:cg S):eW zT 174 [.agg ⟨[v]⟩] ro [] (λr Y=>∃a n c,r= .agg ⟨[.slice a n c]⟩/\∀bU,Knows bU Y->bH bU (.slice a n c) S):=by
 obtain⟨ws,ht,dO⟩:=hS;obtain⟨fP,we,vZ,eL,rfl,v9,nE,nD⟩:=ht;have Ah:=dO.len;have mM:=hO.two;refine zE<|zD 2<|jn λb1=>jn λb2=>zD 4<|jn λb3=>jd 11 [0,2]<|wN<|wN<|iE [1,1,0,1,0,0] [] (λ(zz:Nat×Value×Cells×(List Value)×Cells)=>[(2,zP b2),(3,zP b3),(8,.slice fP ws.length eL),(9,zI (ws.length:Int)),(10,zI (zz.1:Int))]) (λzz=>[zxc b3 24 [zz.2.1],.l zz.2.2.1,.l zz.2.2.2.2,zxc b2 24 [zS],zxc b1 24 [.slice fP ws.length eL]]) (λzz=>(zz.1<=ws.length/\zz.2.2.2.1.length=zz.1)/\bJ zz.2.1 1 98 ri zz.2.2.2.1 zz.2.2.1/\∀bU,Knows bU zz.2.2.2.2->kA (λw l=>dq bU w 2 cu l) zz.2.2.2.1 (S.take zz.1)) (λzz=>ws.length-zz.1) (⟨0,zS,[],[],[]⟩) ⟨⟨by dsimp only;omega,rfl⟩,bJ.nil _ _ _,λ_ _=> .nil⟩ [2,1,0,3,4] ?_;rintro⟨k,vO,LO,es,Z⟩ hI K1 cX rest;dsimp only at hI;refine zD 5<|zJ 11 ((k:Int) <(ws.length:Int)) (λh1=>?_) λh1=>?_
 ·
  refine zD 6<|zxs ws k eL 1 nE (λAw uA=>?_);obtain⟨C6,BX,G6⟩:=dO.get uA;obtain bfR:=hO.len _ (zL BX);obtain⟨HX,adz,adx,Gy,rfl,ady,Zl,Zk⟩:=G6;refine jl 0 (nD _ _ uA)<|jd 6 [0]<|zxo 3 λDX=>jc (vs:=[.slice HX C6.length Gy]) [] (biD (show dq _ _ _ _ _ from ⟨HX,adz,adx,Gy,rfl,ady,Zl,Zk⟩) (by first|omega| (simp only[List.length_set,zM];omega))) ?_;rintro v17 L17 aqD;obtain⟨Ng,Nf,qj⟩:=aqD.form;subst qj;refine eP DX (zN 1 5)<|zxo 4 λwA=>jn λb18=>eP wA (zN 1 6)<|zxo 5 λuD=>gC (sz:=1) (ps:=es) (qs:=[((.slice Ng (C6).length Nf):Value)]) (enc:=ri) (w:= .slice (some ⟨b18,0,none⟩) 1 1) [3] [0] [(b18,.cells ⟨([((.slice Ng (C6).length Nf):Value)].map ri).flatten⟩ 98 (0,0))] (hI.2.1) (λs _ hZ=>de [((.slice Ng (C6).length Nf):Value)] (hZ _ (.head _)) (by intro p hp;rfl)) (by intro p hp;rw[List.mem_singleton] at hp;subst hp;exact aG rfl) (by simp<;>omega) (λv19 L19 aqt=>?_);obtain⟨baj,aZ1,bgU⟩:=aqt.form;subst bgU;refine eE uD []<|zD 1<|zxo 7 λCU=>jd 1 [3]<|kV CU<|zD 2<|zW ((k:Int)+1)<|zD 2<|zV cX (⟨k+1,(.slice baj ((es++[((.slice Ng (C6).length Nf):Value)])).length aZ1),L19,(es++[((.slice Ng (C6).length Nf):Value)]),L17++Z⟩) ⟨⟨by dsimp only;omega,by simp only[zM];omega⟩,aqt,λbU hk=>Bf (hI.2.2 bU hk.right) BX (aqD.jI hk.left)⟩ [[3],[0],[2,4],[5],[6]]
 refine jd 5 [0] ?_;obtain⟨va6,vc6,he6⟩:=hI.2.1.form;subst he6;refine jd 3 [3]<|zR _ [3] [1,2] _ ⟨_,_,_,rfl,λbU hk=>⟨es,hI.2.1.jI hk.left,by have:=hI.2.2 bU hk.right;rwa[bF (by omega)] at this⟩⟩
def ah2{v:Value}{S:List (List ax)}(hS:bH ro v S)(hO:cg S):eW zT 165 [.agg ⟨[v]⟩] ro [] (λr Y=>bJ r 3 41 bL (aI S) Y):=by
 obtain⟨ws,ht,dO⟩:=hS;obtain⟨fP,we,vZ,eL,rfl,v9,nE,nD⟩:=ht;have Ah:=dO.len;have mM:=hO.two;refine zE<|zD 2<|jn λb1=>jd 15 [0]<|wN<|iE [1,1,0,1,0,0] [] (λ(zz:Nat×Value×Cells)=>[(2,zS),(3,zz.2.1),(9,.slice fP ws.length eL),(10,zI (ws.length:Int)),(11,zI (zz.1:Int))]) (λzz=>[.l zz.2.2,zxc b1 24 [.slice fP ws.length eL]]) (λzz=>zz.1<=ws.length/\bJ zz.2.1 3 41 bL (C8 S zz.1) zz.2.2) (λzz=>ws.length-zz.1) (⟨0,zS,[]⟩) ⟨by dsimp only;omega,bJ.nil _ _ _⟩ [0,1] ?_;rintro⟨k,vO,LO⟩ hI K1 cX rest;dsimp only at hI;refine zD 5<|zJ 12 ((k:Int) <(ws.length:Int)) (λh1=>?_) λh1=>?_
 ·
  refine zD 7<|zxs ws k eL 1 nE (λu4 iB=>?_);obtain⟨C5,Kq,WT⟩:=dO.get iB;obtain aHB:=hO.len _ (zL Kq);obtain⟨Py,an2,an0,HW,rfl,an1,Zj,Zi⟩:=WT;refine jl 0 (nD _ _ iB)<|zD 10<|iE [1,1,0,1,0,0,1,1,0,0,1,1,0,0] [K1] (λ(zz:Nat×Value×Cells)=>[(2,zS),(3,zz.2.1),(4,zI (k:Int)),(9,.slice fP ws.length eL),(10,zI (ws.length:Int)),(11,zI (k:Int)),(16,.slice Py C5.length HW),(17,zI (C5.length:Int)),(18,zI (zz.1:Int))]) (λzz=>[.l zz.2.2,zxc b1 24 [.slice fP ws.length eL]]) (λzz=>zz.1<=C5.length/\bJ zz.2.1 3 41 bL (C8 S k++(C5.take zz.1).map (eV k)) zz.2.2) (λzz=>C5.length-zz.1) (⟨0,vO,LO⟩) ⟨by dsimp only;omega,by simpa using hI.2⟩ [0,1] ?_;rintro⟨i,vO,LO⟩ hJ K2 mb rest;dsimp only at hJ;refine zD 5<|zJ 19 ((i:Int) <(C5.length:Int)) (λh2=>?_) λh2=>?_
  ·
   refine zD 6<|zxt C5 i HW 2 Zj Zi λsI q6=>jn λb7=>jd 7 [0,0]<|jn λb26=>zxl bL b26 (⟨(k:Int),sI.n,sI.l⟩:ar) 2 0 (hJ.2) (λaDV aDO L27 Qn=>?_) (hb:=by have:=EV hO k;simp only[aM,dj,cw,aK,aT];omega);refine zD 3<|zW ((i:Int)+1)<|zD 2<|zF mb (⟨i+1,(.slice aDV (((C8 S k++(C5.take i).map (eV k))++[(⟨(k:Int),sI.n,sI.l⟩:ar)])).length aDO),L27⟩) (by rw[cU q6,cC,<-bC];exact Qn) [0,3]
  refine zD 3<|zW ((k:Int)+1)<|zD 2<|zF cX (⟨k+1,vO,LO⟩) (by rw[Qf Kq];have:=hJ.2;rwa[bF (by omega)] at this) [0,1]
 refine zD 8<|zR _ [] [0] LO (by have:=hI.2;rwa[show k=S.length by omega] at this)
theorem Bu{l:List α}{k:Nat}{x:α}(hn:l.Nodup)(h:l[k]?=some x):x∉l.take k:=by grind [aB,dA,cw,List.getElem?_take_of_lt,RR]
def mI(n:Int):Bool:= !decide (Int.tmod n 2=0)
def CW(n:Int):Bool:=decide (Int.tmod n 2=0)
theorem si{p:α->Bool}{l:List α}{x:α}(h:l[i]?=some x):(l.take (i+1)).filter p=(l.take i).filter p++bif p x then [x] else []:=by
 rw[cU h,List.filter_append]
 grind
def pZ(l:List ax):List (List ax):=[l.filter λx=>mI x.n,l.filter λx=>CW x.n]
theorem aa1{l h:List ax}{x:ax}(hh:h∈pZ l)(hx:x∈h):x∈l:=by
 grind [pZ]
theorem are{l h:List ax}(hh:h∈pZ l):h.length<=l.length:=by
 grind [pZ]
def HR(s:Int)(h:List ax):List (ar×List ar):=(h.zip h.reverse).map λp=>(eV s p.1,[eV s p.2])
def Me(s:Int)(l:List ax):List (ar×List ar):=(pZ l).flatMap (HR s)
def FR(s:Int)(l:List ax):List (ar×List ar):=l.map λx=>(eV s x,[⟨s,if mI x.n=true then x.n+1 else x.n-1,x.l⟩])
def gP(l:List ax):Int:=match l[l.length-1]? with
 |some y=>y.n+Int.tmod y.n 2
 |none=>0
def Ii(s o:Int)(l:List ax)(r:Int):List (ar×List ar):=l.map λx=>(eV s x,[⟨o,x.n+r,x.l⟩])
def gU(u:List (ar×List ar))(x:ar):List ar:=u.foldl (λy p=>if x=p.1 then p.2 else y) [x]
theorem ah0(u:List (ar×List ar))(a:ar)(b:List ar):gU (u++[(a,b)])=λx=>if x=a then b else gU u x:=by
 grind [gU]
theorem agu{s:Int}{h:List ax}{x y:ax}(hx:h[i]?=some x) (hy:h[(((h.length:Int)-1)-(i:Int)).toNat]?=some y):(HR s h)[i]?=some (eV s x,[eV s y]):=by
 have hi:=(aB.1 hx).1;have h2:h.reverse[i]?=some y:=by rw[List.getElem?_reverse hi,<-hy];congr 1;omega
 have:=(Gj (z:=(x,y))).2 ⟨hx,h2⟩;simp only[HR,eG,this];rfl
theorem anz(s:Int)(h:List ax):(HR s h).length=h.length:=by simp[HR]
theorem ao9{f:α->β}{l:List α}{x:α}(h:l[i]?=some x):(l.map f)[i]?=some (f x):=by grind
theorem E3{f:α->List β}{l:List α}{x:α}(h:l[i]?=some x):(l.take (i+1)).flatMap f=(l.take i).flatMap f++f x:=by rw[cU h,jC,List.flatMap_singleton]
theorem MV.upd{S:List (List ax)}(hO:cg S){F:List (ar×Value)}{u:List (ar×List ar)}{s:Nat}{l:List ax}{x:ax}{y:ar}{b:Nat}(h:MV Z F (gU u))(hk:F.map (·.1)=aI S)(hl:S[s]?=some l) (hx:x∈l):
 MV (Z++[(b,.cells ⟨bL y⟩ T (0,0))]) (jL (eV s x) (.slice (some ⟨b,0,none⟩) 1 1) F) (gU (u++[(eV s x,[y])]))/\(jL (eV s x) (.slice (some ⟨b,0,none⟩) 1 1) F).map (·.1)=aI S:=by
 have hm:eV s x∈F.map (·.1):=by rw[hk];exact BW hl hx
 have hn:(F.map (·.1)).Nodup:=by rw[hk];exact Ab hO _
 rw[ah0];exact⟨h.set hm hn λbU hk=>fK [y] (hk _ (.head _)) (λ_ _=>rfl),(OP hm hn).1.trans hk⟩
def YO{S:List (List ax)}(hO:cg S){F:List (ar×Value)}{k:Nat}{x:ar}{b:Nat}(h:MV Z F rO)(hk:F.map (·.1)=(aI S).take k)(hx:(aI S)[k]?=some x):
 MV (Z++[(b,.cells ⟨bL x⟩ T (0,0))]) (jL x (.slice (some ⟨b,0,none⟩) 1 1) F) rO/\(jL x (.slice (some ⟨b,0,none⟩) 1 1) F).map (·.1)=(aI S).take (k+1):=by
 have:x∉F.map (·.1):=by rw[hk];exact Bu (Ab hO _) hx
 rw[HI this];exact⟨h.add λbU hk=>fK [x] (hk _ (.head _)) (λ_ _=>rfl),by rw[cC,hk,cU hx];rfl⟩
def MN{v:Value}{S:List (List ax)}(hS:bH ro v S)(hO:cg S):eW zT 175 [.agg ⟨[v]⟩] ro [] (λr Y=>∃rm F LM Z,r= .map (some rm)/\Y=LM++Z/\iq rm mh F LM/\F.map (·.1)=aI S/\MV Z F rO):=by
 have mY:=hS;obtain⟨ws,ht,dO⟩:=hS;obtain⟨fP,we,vZ,eL,rfl,v9,nE,nD⟩:=ht;have Ah:=dO.len;have mM:=hO.two;have hhl:=Qp hO;refine zE<|zD 2<|jn λb1=>zD 4<|jmk mh λr6 L6 hm6=>jd 6 [1]<|jc (vs:=[.agg ⟨[.slice fP ws.length eL]⟩]) [] (ah2 mY hO) ?_;rintro v8 L8 ho8;refine jol ho8<|zD 1<|jf [0] L8 (λAH fq gV=>?_);have hzh:=ho8.jI gV;obtain⟨bbP,bqg,bqe,aOH,rfl,bqf,bbO,bbN⟩:=hzh;refine zD 2<|wN<|iE [1,1,0,1,0,0] [] (λ(zz:Nat×(List (ar×Value))×Cells×Cells)=>[(2,(.map none)),(3,(.map (some r6))),(8,.slice bbP ((aI S).length) aOH),(9,zI ((aI S).length:Int)),(10,zI (zz.1:Int))]) (λ(zz:Nat×(List (ar×Value))×Cells×Cells)=>[.l zz.2.2.1,.l zz.2.2.2,zxc b1 24 [.slice fP ws.length eL]]) (λ(zz:Nat×(List (ar×Value))×Cells×Cells)=>zz.1<=(aI S).length/\iq r6 mh zz.2.1 zz.2.2.1/\zz.2.1.map (·.1)=(aI S).take zz.1/\MV zz.2.2.2 zz.2.1 rO) (λ(zz:Nat×(List (ar×Value))×Cells×Cells)=>(aI S).length-zz.1) (⟨0,[],L6,[]⟩) ⟨by dsimp only;omega,hm6,rfl,λ_ _ _ h=>(by cases h)⟩ [1,0,2] ?_;rintro⟨k,F,LM,Z⟩ hI K1 cX rest;dsimp only at hI;refine zD 5<|zJ 11 ((k:Int) <((aI S).length:Int)) (λh4=>?_) λh4=>?_
 ·
  refine zD 6<|zxt (aI S) k aOH 3 bbO bbN λAw uA=>jn λb5=>jd 6 [0,0,0]<|jn λb17=>XZ (kv:=mh) (F:=F) (r:=r6) (K:=41) 2 Aw (.slice (some ⟨b17,0,none⟩) 1 1) wM hI.2.1 λLm5 hm5=>zD 2<|zW ((k:Int)+1)<|zD 2<|zV cX (⟨k+1,_,Lm5,Z++[(b17,.cells ⟨[zI Aw.h,zI Aw.n,zI Aw.l]⟩ 41 (0,0))]⟩) ⟨by dsimp only;omega,hm5,(YO (T:=41) hO hI.2.2.2 hI.2.2.1 uA).2,(YO (T:=41) hO hI.2.2.2 hI.2.2.1 uA).1⟩ [[0],[3,1],[4]]
 refine zD 8<|bY q0.a ((.map (some r6))) [] [0,1] (LM++Z) fq ⟨_,_,rfl,rfl,_,F,LM,Z,rfl,rfl,hI.2.1,by rw[hI.2.2.1,bF (by omega)],hI.2.2.2⟩
def gAt{h:Int}:iz zT 298 [zI h,zI n,zI l] ro (.agg ⟨[zI h,zI n,zI l]⟩):=by
 refine zE<|zD 2<|jn λb6=>jd 11 [0]<|zR _ [0] [] [] ⟨rfl,rfl⟩
def aUL{x:ax}:iz zT 296 [.agg ⟨[zI x.n,zI x.l]⟩] ro (.bool (mI x.n)):=by
 refine zE<|zD 2<|jn λb1=>jd 11 [0]<|zX _ ⟨rfl,rfl⟩
def abh{v:Value}{l:List ax}(hl:dq ro v 2 cu l)(hn:l.length<=6):eW zT 295 [v,.func (.func 296) ⟨[]⟩ ⟨[]⟩] ro [] (λr Y=>bJ r 2 39 cu (l.filter λx=>mI x.n) Y):=by
 obtain⟨fQ,rK,rJ,fg,rfl,tJ,nj,nY⟩:=hl;refine zE<|zD 16<|wN<|iE [1,1,0,1,0,0] [] (λ(zz:Nat×Value×Cells)=>[(1,.func (.func 296) ⟨[]⟩ ⟨[]⟩),(4,zS),(5,zz.2.1),(8,.slice fQ l.length fg),(9,zI (l.length:Int)),(10,zI (zz.1:Int))]) (λzz=>[.l zz.2.2]) (λzz=>zz.1<=l.length/\bJ zz.2.1 2 39 cu ((l.take zz.1).filter λx=>mI x.n) zz.2.2) (λzz=>l.length-zz.1) (⟨0,zS,[]⟩) ⟨by dsimp only;omega,bJ.nil _ _ _⟩ [0] ?_;rintro⟨k,vO,LO⟩ hI K1 cX rest;dsimp only at hI;refine zD 5<|zJ 11 ((k:Int) <(l.length:Int)) (λh1=>?_) λh1=>?_
 ·
  refine zD 6<|zxt l k fg 2 nj nY λAw uA=>jn λb7=>jd 6 [0,0]<|zxp [.agg ⟨[zI Aw.n,zI Aw.l]⟩] (λhs=>(aUL (x:=Aw)))<|zD 1<|js 16 (mI Aw.n) (λh2=>?_) (λh2=>?_)
  ·
   refine jd 4 [0]<|jn λXx=>zxl cu Xx (⟨Aw.n,Aw.l⟩:ax) 2 0 (hI.2) (λOM OJ L20 BU=>?_) (hb:=by have:=sr (λx:ax=>mI x.n) (l.take k);rw[cw] at this;simp only[aK,aT];omega);refine zD 3<|zW ((k:Int)+1)<|zD 2<|zF cX (⟨k+1,(.slice OM ((((l.take k).filter λx=>mI x.n)++[(⟨Aw.n,Aw.l⟩:ax)])).length OJ),L20⟩) (by rw[si uA,show mI Aw.n=true from (by assumption)];exact BU) [0]
  refine zD 3<|zW ((k:Int)+1)<|zD 2<|zF cX (⟨k+1,vO,LO⟩) (by rw[si uA,show mI Aw.n=false from (by assumption)];simpa using hI.2) [1]
 refine zD 8<|zR _ [] [0] LO (by have:=hI.2;rwa[bF (by omega)] at this)
def aUR{x:ax}:iz zT 297 [.agg ⟨[zI x.n,zI x.l]⟩] ro (.bool (CW x.n)):=by
 refine zE<|zD 2<|jn λb1=>jd 11 [0]<|zX _ ⟨rfl,rfl⟩
def abg{v:Value}{l:List ax}(hl:dq ro v 2 cu l)(hn:l.length<=6):eW zT 295 [v,.func (.func 297) ⟨[]⟩ ⟨[]⟩] ro [] (λr Y=>bJ r 2 39 cu (l.filter λx=>CW x.n) Y):=by
 obtain⟨fQ,rK,rJ,fg,rfl,tJ,nj,nY⟩:=hl;refine zE<|zD 16<|wN<|iE [1,1,0,1,0,0] [] (λ(zz:Nat×Value×Cells)=>[(1,.func (.func 297) ⟨[]⟩ ⟨[]⟩),(4,zS),(5,zz.2.1),(8,.slice fQ l.length fg),(9,zI (l.length:Int)),(10,zI (zz.1:Int))]) (λzz=>[.l zz.2.2]) (λzz=>zz.1<=l.length/\bJ zz.2.1 2 39 cu ((l.take zz.1).filter λx=>CW x.n) zz.2.2) (λzz=>l.length-zz.1) (⟨0,zS,[]⟩) ⟨by dsimp only;omega,bJ.nil _ _ _⟩ [0] ?_;rintro⟨k,vO,LO⟩ hI K1 cX rest;dsimp only at hI;refine zD 5<|zJ 11 ((k:Int) <(l.length:Int)) (λh1=>?_) λh1=>?_
 ·
  refine zD 6<|zxt l k fg 2 nj nY λAw uA=>jn λb7=>jd 6 [0,0]<|zxp [.agg ⟨[zI Aw.n,zI Aw.l]⟩] (λhs=>(aUR (x:=Aw)))<|zD 1<|js 16 (CW Aw.n) (λh2=>?_) (λh2=>?_)
  ·
   refine jd 4 [0]<|jn λXx=>zxl cu Xx (⟨Aw.n,Aw.l⟩:ax) 2 0 (hI.2) (λOM OJ L20 BU=>?_) (hb:=by have:=sr (λx:ax=>CW x.n) (l.take k);rw[cw] at this;simp only[aK,aT];omega);refine zD 3<|zW ((k:Int)+1)<|zD 2<|zF cX (⟨k+1,(.slice OM ((((l.take k).filter λx=>CW x.n)++[(⟨Aw.n,Aw.l⟩:ax)])).length OJ),L20⟩) (by rw[si uA,show CW Aw.n=true from (by assumption)];exact BU) [0]
  refine zD 3<|zW ((k:Int)+1)<|zD 2<|zF cX (⟨k+1,vO,LO⟩) (by rw[si uA,show CW Aw.n=false from (by assumption)];simpa using hI.2) [1]
 refine zD 8<|zR _ [] [0] LO (by have:=hI.2;rwa[bF (by omega)] at this)
def ayD{v:Value}{S:List (List ax)}{s:Nat}{l:List ax}{c2 c3 c4:Int}{F:List (ar×Value)}(hS:bH ro v S)(hO:cg S)(hl:S[s]?=some l) (hm:iq rm mh F LM) (hk:F.map (·.1)=aI S) (hM:MV Z F rO):eW zT 260 [.agg ⟨[v]⟩,.agg ⟨[zI ck,zI (s:Int),zI c2,zI c3,zI c4,zI c5,zI c6]⟩,(.map (some rm))] ro (LM++Z) (λr Y=>∃F' L' Z',r= zI 0/\Y=L'++Z'/\iq rm mh F' L'/\F'.map (·.1)=aI S/\MV Z' F' (gU (Me (s:Int) l))):=by
 obtain⟨ws,ht,dO⟩:=hS;obtain⟨fP,we,vZ,eL,rfl,v9,nE,nD⟩:=ht;have Ah:=dO.len;have mM:=hO.two;have Bn:=(aB.1 hl).1;have Da:=zL hl;have FC:=hO.len _ Da;refine zC [.l LM,.l Z]<|zD 2<|jn λb3=>jn λb4=>zD 4<|jct [1,0,1] [] (λ(zz:Nat×Value×Value×Cells×Cells)=>[(2,(.map (some rm))),(4,zP b4),(6,zI 0),(25,.slice (some ⟨zz.1,0,none⟩) 2 2),(26,zI 2),(27,zI 0)]) (λzz=>[.b zz.1 (.cells ⟨[zz.2.1,zz.2.2.1]⟩ 98 (0,0)),.l zz.2.2.2.1,.l zz.2.2.2.2,.l LM,.l Z,zxc b4 100 [zI ck,zI (s:Int),zI c2,zI c3,zI c4,zI c5,zI c6],zxc b3 24 [.slice fP ws.length eL]]) (λzz=>bJ zz.2.1 2 39 cu (l.filter λx=>mI x.n) zz.2.2.2.1/\bJ zz.2.2.1 2 39 cu (l.filter λx=>CW x.n) zz.2.2.2.2) ?_ (λK1 cX=>?_)
 ·
  rintro⟨b25,v1,v2,L1,L2⟩ hC rest;dsimp only at hC;refine jf [0,1,2] ((b25,.cells ⟨[v1,v2]⟩ 98 (0,0))::(L1++L2)) (λAH fq gV=>?_);have hhv:=fK (enc:=ri) (T:=98) [v1,v2] (gV _ (.head _)) (λ_ _=>rfl);have aS5:kA (λw l=>dq AH w 2 cu l) [v1,v2] (pZ l):= .cons (hC.1.jI (Knows.left (Knows.tail gV))) (.cons (hC.2.jI (Knows.right (Knows.tail gV))) .nil);have hvl: [v1,v2].length=2:=rfl;obtain⟨qga,qgb,qgo,qgc,X9,qgk,qgh,qgl⟩:=hhv;simp only[Value.slice.injEq] at X9;obtain⟨rfl,_,rfl⟩:=X9;refine zD 1<|iE [1,0,1,0,0] [] (λ(zz:Nat×(List (ar×Value))×Cells×Cells)=>[(2,(.map (some rm))),(4,zP b4),(6,zI 0),(25,.slice (some ⟨b25,0,none⟩) 2 2),(26,zI 2),(27,zI (zz.1:Int))]) (λ(zz:Nat×(List (ar×Value))×Cells×Cells)=>[.l zz.2.2.1,.l zz.2.2.2,zxc b4 100 [zI ck,zI (s:Int),zI c2,zI c3,zI c4,zI c5,zI c6],zxc b3 24 [.slice fP ws.length eL]]) (λ(zz:Nat×(List (ar×Value))×Cells×Cells)=>zz.1<=2/\iq rm mh zz.2.1 zz.2.2.1/\zz.2.1.map (·.1)=aI S/\MV zz.2.2.2 zz.2.1 (gU (((pZ l).take zz.1).flatMap (HR (s:Int))))) (λ(zz:Nat×(List (ar×Value))×Cells×Cells)=>2-zz.1) (⟨0,F,LM,Z⟩) ⟨by dsimp only;omega,hm,hk,hM⟩ (zN 0 4) ?_;rintro⟨k,F,LM,Z⟩ hI K2 mb rest;dsimp only at hI;refine zD 5<|zJ 28 ((k:Int) <2) (λh4=>?_) λh4=>?_
  ·
   refine zD 6<|zxs [v1,v2] k 2 1 qgh (λLV w7=>?_);obtain⟨P7,aqM,h30⟩:=aS5.get w7;obtain ako:P7.length<=6:=by have:=are (zL aqM);omega
   obtain⟨av0,bcv,bct,adw,rfl,bcu,avZ,avY⟩:=h30;refine jl 0 (qgl _ _ w7)<|zD 9<|iE [1,0,1,0,0,1,1,0,0,1,1,0,0] [K2] (λ(zz:Nat×(List (ar×Value))×Cells×Cells)=>[(2,(.map (some rm))),(4,zP b4),(6,zI 0),(8,.slice av0 P7.length adw),(25,.slice (some ⟨b25,0,none⟩) 2 2),(26,zI 2),(27,zI (k:Int)),(31,.slice av0 P7.length adw),(32,zI (P7.length:Int)),(33,zI (zz.1:Int))]) (λ(zz:Nat×(List (ar×Value))×Cells×Cells)=>[.l zz.2.2.1,.l zz.2.2.2,zxc b4 100 [zI ck,zI (s:Int),zI c2,zI c3,zI c4,zI c5,zI c6],zxc b3 24 [.slice fP ws.length eL]]) (λ(zz:Nat×(List (ar×Value))×Cells×Cells)=>zz.1<=P7.length/\iq rm mh zz.2.1 zz.2.2.1/\zz.2.1.map (·.1)=aI S/\MV zz.2.2.2 zz.2.1 (gU (((pZ l).take k).flatMap (HR (s:Int))++(HR (s:Int) P7).take zz.1))) (λ(zz:Nat×(List (ar×Value))×Cells×Cells)=>P7.length-zz.1) (⟨0,F,LM,Z⟩) ⟨by dsimp only;omega,hI.2.1,hI.2.2.1,by simpa using hI.2.2.2⟩ (zN 0 4) ?_;rintro⟨i,F,LM,Z⟩ hJ K3 FI rest;dsimp only at hJ;refine zD 5<|zJ 34 ((i:Int) <(P7.length:Int)) (λh5=>?_) λh5=>?_
   ·
    refine zD 7<|zxt P7 i adw 2 avZ avY λXY wm=>jn λFL=>jd 14 [0,3,0,3]<|zW ((P7.length:Int)-1)<|zD 1<|zW (((P7.length:Int)-1)-(i:Int)) ?_;obtain⟨gR,qB⟩:=zG P7 (((((P7.length:Int)-1)-(i:Int))).toNat);refine jsi (((P7.length:Int)-1)-(i:Int)) adw 2 avZ qB (by omega)<|jl 0 (avY _ _ qB)<|zD 1<|zxo 16 λuD=>jn λb54=>eP uD (zN 1 5)<|zxo 17 λCU=>XZ (kv:=mh) (F:=F) (r:=rm) (K:=41) 2 (eV (s:Int) XY) (.slice (some ⟨b54,0,none⟩) 1 1) wM hJ.2.1 λLm8 hm8=>kV CU<|zD 2<|zW ((i:Int)+1)<|zD 2 ?_;have Ny:=MV.upd (T:=41) (b:=b54) (y:=eV s gR) hO hJ.2.2.2 hJ.2.2.1 hl (aa1 (zL aqM) (zL wm));exact zV FI (⟨i+1,_,Lm8,Z++[(b54,.cells ⟨[zI (s:Int),zI gR.n,zI gR.l]⟩ 41 (0,0))]⟩) ⟨by dsimp only;omega,hm8,Ny.2,by rw[cU (agu wm qB),<-List.append_assoc];exact Ny.1⟩ [[0],[3,1],[4],[5]]
   refine zD 3<|zW ((k:Int)+1)<|zD 2<|zF mb (⟨k+1,F,LM,Z⟩) ⟨hJ.2.1,hJ.2.2.1,by have:=hJ.2.2.2;rw[bF (l:=HR (s:Int) P7) (by rw[anz];omega)] at this;rw[E3 aqM];exact this⟩ [0,1,2,3]
  refine zD 7<|bY q0.a (zI 0) [] [0,1] (LM++Z) fq ⟨_,_,rfl,rfl,F,LM,Z,rfl,rfl,hI.2.1,hI.2.2.1,by have:=hI.2.2.2;rwa[show k=2 by omega] at this⟩
 refine jd 5 [1,0]<|zxs ws s eL 1 nE (λFs Kc=>?_);obtain⟨l16,aeC,h16⟩:=dO.get Kc;obtain bfQ:=hO.len _ (zL aeC);obtain aaW:l16=l:=aJ (aeC.symm.trans hl);obtain⟨Np,aju,ajq,No,rfl,ajs,ajt,ajr⟩:=h16;refine jl 0 (nD _ _ Kc)<|jd 4 [1,0]<|zxs ws s eL 1 nE (λLY iQ=>?_);obtain⟨SD,Io,WS⟩:=dO.get iQ;obtain aHz:=hO.len _ (zL Io);obtain aq3:SD=l:=aJ (Io.symm.trans hl);obtain⟨yD,Nn,Nj,yC,rfl,Nl,Nm,Nk⟩:=WS;refine jl 0 (nD _ _ iQ)<|zD 1<|zxo 6 λKB=>jc (vs:=[.slice Np l16.length No,.func (.func 296) ⟨[]⟩ ⟨[]⟩]) [] (abh (show dq _ _ _ _ _ from ⟨Np,aju,ajq,No,rfl,ajs,ajt,ajr⟩) (by omega)) ?_;rintro v17 L17 aqD;obtain⟨Ng,Nf,aeH⟩:=aqD.form;subst aeH;refine eP KB (zN 1 4)<|zxo 13 λQB=>jc (vs:=[.slice yD SD.length yC,.func (.func 297) ⟨[]⟩ ⟨[]⟩]) [] (abg (show dq _ _ _ _ _ from ⟨yD,Nn,Nj,yC,rfl,Nl,Nm,Nk⟩) (by omega)) ?_;rintro v24 L24 aSx;obtain⟨aDW,aDP,bgw⟩:=aSx.form;subst bgw;refine eP QB (zN 1 5)<|zxo 14 λhL8=>jn λb25=>eP hL8 (zN 1 6)<|zD 2<|zY cX ⟨b25,(.slice Ng (l16.filter λx=>mI x.n).length Nf),(.slice aDW (SD.filter λx=>CW x.n).length aDP),L17,L24⟩ ⟨by rw[<-aaW];exact aqD,by rw[<-aq3];exact aSx⟩ [0,2,1,5,6,3,4]
theorem agm{s:Int}{l:List ax}{x:ax}(h:l[i]?=some x):(FR s l)[i]?=some (eV s x,[⟨s,if mI x.n=true then x.n+1 else x.n-1,x.l⟩]):=ao9 h
theorem axC{s o r:Int}{l:List ax}{x:ax}(h:l[i]?=some x):(Ii s o l r)[i]?=some (eV s x,[⟨o,x.n+r,x.l⟩]):=ao9 h
def raise_at{l:List ax}{x:ax}(h:l[(((l.length:Int)-1)).toNat]?=some x):gP l=x.n+Int.tmod x.n 2:=by
 have:l[l.length-1]?=some x:=by rw[<-h];congr 1;omega
 simp only[gP,this]
def ajk{l:List ax}(h:¬(l.length:Int)>0):gP l=0:=by
 have:l=[]:=iO (by omega);subst this;rfl
theorem tm2(h:1<=n/\n<=40):(0<=Int.tmod n 2/\Int.tmod n 2<=1)/\n+Int.tmod n 2<=40:=by grind
theorem Dt{l:List ax}(h:∀x∈l,p7 x):0<=gP l/\gP l<=40:=by
 unfold gP;split
 .rename_i y hy;have h1:=(h y (zL hy)).1
  grind
 omega
def ast{v:Value}{S:List (List ax)}{s:Nat}{l:List ax}{c2 c3 c4:Int}{F:List (ar×Value)}(hS:bH ro v S)(hO:cg S)(hl:S[s]?=some l) (hm:iq rm mh F LM) (hk:F.map (·.1)=aI S) (hM:MV Z F rO):eW zT 261 [.agg ⟨[v]⟩,.agg ⟨[zI ck,zI (s:Int),zI c2,zI c3,zI c4,zI c5,zI c6]⟩,(.map (some rm))] ro (LM++Z) (λr Y=>∃F' L' Z',r= zI 0/\Y=L'++Z'/\iq rm mh F' L'/\F'.map (·.1)=aI S/\MV Z' F' (gU (FR (s:Int) l))):=by
 obtain⟨ws,ht,dO⟩:=hS;obtain⟨fP,we,vZ,eL,rfl,v9,nE,nD⟩:=ht;have Ah:=dO.len;have mM:=hO.two;have Bn:=(List.getElem?_eq_some_iff.1 hl).1;have Da:=zL hl;have FC:=hO.len _ Da;refine zC [.l LM,.l Z]<|zD 2<|jn λb3=>jn λb4=>jd 9 [1,0]<|zxs ws s eL 1 nE (λu4 iB=>?_);obtain⟨C5,Kq,WT⟩:=dO.get iB;obtain aHB:=hO.len _ (zL Kq);obtain FH:C5=l:=Option.some.inj (Kq.symm.trans hl);obtain aGR:=hO.ok _ (zL Kq);obtain⟨Py,an2,an0,HW,rfl,an1,Zj,Zi⟩:=WT;refine jl 0 (nD _ _ iB)<|zD 4<|iE [1,0,1,0,0] [] (λ(zz:Nat×(List (ar×Value))×Cells×Cells)=>[(2,(.map (some rm))),(4,zP b4),(6,zI 0),(15,.slice Py C5.length HW),(16,zI (C5.length:Int)),(17,zI (zz.1:Int))]) (λ(zz:Nat×(List (ar×Value))×Cells×Cells)=>[.l zz.2.2.1,.l zz.2.2.2,zxc b4 100 [zI ck,zI (s:Int),zI c2,zI c3,zI c4,zI c5,zI c6],zxc b3 24 [.slice fP ws.length eL]]) (λ(zz:Nat×(List (ar×Value))×Cells×Cells)=>zz.1<=C5.length/\iq rm mh zz.2.1 zz.2.2.1/\zz.2.1.map (·.1)=aI S/\MV zz.2.2.2 zz.2.1 (gU ((FR (s:Int) l).take zz.1))) (λ(zz:Nat×(List (ar×Value))×Cells×Cells)=>C5.length-zz.1) (⟨0,F,LM,Z⟩) ⟨by dsimp only;omega,hm,hk,hM⟩ [2,3,0,1] ?_;rintro⟨i,F,LM,Z⟩ hI K1 cX rest;dsimp only at hI;refine zD 5<|zJ 18 ((i:Int) <(C5.length:Int)) (λh1=>?_) λh1=>?_
 ·
  refine zD 6<|zxt C5 i HW 2 Zj Zi λBs xW=>jn λb8=>jd 3 [0] ?_;have SO:=aGR _ (zL xW);have bfb:=SO.1.1;have bfa:=SO.1.2;refine jd 3 [0]<|zW (Bs.n-1)<|jd 6 [0]<|zxp [.agg ⟨[zI Bs.n,zI Bs.l]⟩] (λhs=>(aUL (x:=Bs)))<|zD 1<|js 25 (mI Bs.n) (λh2=>?_) (λh2=>?_)
  ·
   refine jd 4 [0]<|zW (Bs.n+1)<|jd 13 [3,0,3,0]<|zxp [zI (s:Int),zI (Bs.n+1),zI Bs.l] (λhs=>gAt)<|zxo 11 λDX=>jn λb40=>eP DX (zN 1 5)<|zxo 12 λwA=>XZ (kv:=mh) (F:=F) (r:=rm) (K:=41) 2 (eV (s:Int) Bs) (.slice (some ⟨b40,0,none⟩) 1 1) wM hI.2.1 λLm5 hm5=>kV wA<|zD 2<|zW ((i:Int)+1)<|zD 2 ?_;have Ny:=MV.upd (T:=41) (b:=b40) (y:=⟨s,Bs.n+1,Bs.l⟩) hO hI.2.2.2 hI.2.2.1 hl (by rw[<-FH];exact zL xW);exact zV cX (⟨i+1,_,Lm5,Z++[(b40,.cells ⟨[zI (s:Int),zI (Bs.n+1),zI Bs.l]⟩ 41 (0,0))]⟩) ⟨by dsimp only;omega,hm5,Ny.2,by rw[cU (agm (by rw[<-FH];exact xW))];rw[if_pos (by assumption)];exact Ny.1⟩ [[0],[3,1],[4],[5]]
  refine jd 13 [3,0,3,0]<|zxp [zI (s:Int),zI (Bs.n-1),zI Bs.l] (λhs=>gAt)<|zxo 11 λuD=>jn λb40=>eP uD (zN 1 5)<|zxo 12 λCU=>XZ (kv:=mh) (F:=F) (r:=rm) (K:=41) 2 (eV (s:Int) Bs) (.slice (some ⟨b40,0,none⟩) 1 1) wM hI.2.1 λLm8 hm8=>kV CU<|zD 2<|zW ((i:Int)+1)<|zD 2 ?_;have Ny:=MV.upd (T:=41) (b:=b40) (y:=⟨s,Bs.n-1,Bs.l⟩) hO hI.2.2.2 hI.2.2.1 hl (by rw[<-FH];exact zL xW);exact zV cX (⟨i+1,_,Lm8,Z++[(b40,.cells ⟨[zI (s:Int),zI (Bs.n-1),zI Bs.l]⟩ 41 (0,0))]⟩) ⟨by dsimp only;omega,hm8,Ny.2,by rw[cU (agm (by rw[<-FH];exact xW))];rw[if_neg (by rw[show mI Bs.n=false from (by assumption)];decide)];exact Ny.1⟩ [[0],[3,1],[4],[5]]
 refine zD 7<|zR _ [] [0,1] _ ⟨F,LM,Z,rfl,rfl,hI.2.1,hI.2.2.1,by have:=hI.2.2.2;rwa[bF (by simp only[FR,dj];rw[<-FH];omega)] at this⟩
theorem MV.aNn{S:List (List ax)}(hO:cg S){F:List (ar×Value)}{u:List (ar×List ar)}{k:ar}{y:List ar}{v:Value}(h:MV Z F (gU u))(hk:F.map (·.1)=aI S)(hm:k∈aI S)(hv:∀bU,Knows bU Z2->dq bU v 3 bL y):
 MV (Z++Z2) (jL k v F) (gU (u++[(k,y)]))/\(jL k v F).map (·.1)=aI S:=by
 have hm:k∈F.map (·.1):=by grind
 have hn:(F.map (·.1)).Nodup:=by rw[hk];exact Ab hO _
 rw[ah0];exact⟨h.set hm hn hv,(OP hm hn).1.trans hk⟩
theorem sW{y:ax}:cz n l y=true↔y=⟨n,l⟩:=by
 rcases y with ⟨a,b⟩
 grind [cz]
theorem Xb{p:α->Bool}:∀ {l:List α} {k:Nat},bM p l k>=0->∃x∈l,p x=true
 | [],_,h=>by grind [bM]
 |x::l,k,h=>by
  cases hp:p x with
  |true=>grind
  |false=>
   simp only[bM,hp] at h;obtain⟨y,h1,h2⟩:=Xb h
   grind
theorem H0{ps:List ax}(h:bM (cz n l) ps 0>=0):(⟨n,l⟩:ax)∈ps:=by
 obtain⟨x,h1,h2⟩:=Xb h
 grind [sW]
def Ba(l:List ax)(n t:Int):Int:=bif !decide (bM (cz n t) l 0>=0) then 3 else 0
theorem afi{l:List ax}(h:(!decide (bM (cz n t) l 0>=0))=true):Ba l n t=3:=by grind [Ba]
theorem asP{l:List ax}(h:(!decide (bM (cz n t) l 0>=0))=false):Ba l n t=0:=by grind [Ba]
theorem apO{l:List ax}(h:(!decide (bM (cz n t) l 0>=0))=false):(⟨n,t⟩:ax)∈l:=H0 (by grind)
def ayF{v:Value}{S:List (List ax)}{s:Nat}{l:List ax}{c2 c3 c4:Int}{F:List (ar×Value)}(hS:bH ro v S)(hO:cg S)(hl:S[s]?=some l) (hm:iq rm mh F LM) (hk:F.map (·.1)=aI S) (hM:MV Z F rO):eW zT 265 [.agg ⟨[v]⟩,.agg ⟨[zI ck,zI (s:Int),zI c2,zI c3,zI c4,zI c5,zI c6]⟩,(.map (some rm))] ro (LM++Z) (λr Y=>∃F' L' Z',r= zI (Ba l c3 c4)/\Y=L'++Z'/\iq rm mh F' L'/\F'.map (·.1)=aI S/\((Ba l c3 c4)=0->MV Z' F' (gU ([(⟨s,c3,c4⟩,[])])))):=by
 obtain⟨ws,ht,dO⟩:=hS;obtain⟨fP,we,vZ,eL,rfl,v9,nE,nD⟩:=ht;have Ah:=dO.len;have mM:=hO.two;have Bn:=(aB.1 hl).1;have Da:=zL hl;have FC:=hO.len _ Da;refine zC [.l LM,.l Z]<|zD 2<|jn λb3=>jn λb4=>jd 9 [1,0]<|zxs ws s eL 1 nE (λx11 aaC=>?_);obtain⟨l12,aSZ,Yc⟩:=dO.get aaC;obtain bs7:=hO.len _ (zL aSZ);obtain aky:l12=l:=aJ (aSZ.symm.trans hl);obtain⟨aPs,bcN,bcJ,aPr,rfl,bcL,bcM,bcK⟩:=Yc;refine jl 0 (nD _ _ aaC)<|jd 2 [0]<|zxp [.slice aPs l12.length aPr,.agg ⟨[zI c3,zI c4]⟩] (λhs=>Kb ((show dq _ _ _ _ _ from ⟨aPs,bcN,bcJ,aPr,rfl,bcL,bcM,bcK⟩).up hs) (by first|omega| (simp only[aO,zM];omega))) ?_;refine zD 2<|js 16 (!(decide (bM (cz c3 c4) l12 0>=0))) (λh1=>?_) (λh1=>?_)
 ·
  refine zD 6<|zR _ [] [2,3] _ ⟨F,LM,Z,by rw[afi (show (!decide (bM (cz c3 c4) l 0>=0))=true from (by rw[<-aky];assumption))],rfl,hm,hk,λe=>absurd ((afi (show (!decide (bM (cz c3 c4) l 0>=0))=true from (by rw[<-aky];assumption))).symm.trans e) (by decide)⟩
 refine jd 10 [0,0]<|XZ (kv:=mh) (F:=F) (r:=rm) (K:=41) 2 (⟨(s:Int),c3,c4⟩:ar) (zS) wM hm λLm2 yx=>zD 6 ?_;have uB:=apO (show (!decide (bM (cz c3 c4) l 0>=0))=false from (by rw[<-aky];assumption));have Ny:=MV.aNn (u:=[]) (Z2:=[]) (k:=eV (s:Int) ⟨c3,c4⟩) (y:=[]) (v:= zS) hO hM hk (BW hl uB) (λ_ _=>dq.nil _ _ _ _ _);exact zR _ [] [0,3] _ ⟨_,Lm2,Z,by rw[asP (show (!decide (bM (cz c3 c4) l 0>=0))=false from (by rw[<-aky];assumption))],rfl,yx,Ny.2,λ_=>by have:=Ny.1;rwa[eR] at this⟩
def r5(l lo:List ax):Int:=bif decide (l.length+lo.length>8) then 6 else bif l.any λx=>decide (x.n+gP lo>40) then 1 else 0
theorem join_6{l lo:List ax}(h:l.length+lo.length>8):r5 l lo=6:=by grind [r5,cb]
theorem join_1{l lo:List ax}{x:ax}(h:¬l.length+lo.length>8)(hx:x∈l)(h2:x.n+gP lo>40):r5 l lo=1:=by
 grind [gP,List.any_eq_true,r5,cG]
theorem join_0{l lo:List ax}(h:¬l.length+lo.length>8)(h2:∀x∈l,¬x.n+gP lo>40):r5 l lo=0:=by
 grind [gP,List.any_eq_false,r5,cG]
theorem I4{p:α->Prop}{l:List α}{x:α}(h:∀y∈l.take i,p y)(hx:l[i]?=some x) (hp:p x):∀y∈l.take (i+1),p y:=λy hy=>by
 rw[cU hx] at hy
 grind
def ayE{v:Value}{S:List (List ax)}{s:Nat}{l lo:List ax}{c3 c4:Int}{F:List (ar×Value)}(hS:bH ro v S)(hO:cg S)(hl:S[s]?=some l) (hm:iq rm mh F LM) (hk:F.map (·.1)=aI S) (hM:MV Z F rO) (qL:S[o]?=some lo):eW zT 263 [.agg ⟨[v]⟩,.agg ⟨[zI ck,zI (s:Int),zI (o:Int),zI c3,zI c4,zI c5,zI c6]⟩,(.map (some rm))] ro (LM++Z) (λr Y=>∃F' L' Z',r= zI (r5 l lo)/\Y=L'++Z'/\iq rm mh F' L'/\F'.map (·.1)=aI S/\((r5 l lo)=0->MV Z' F' (gU (Ii (s:Int) (o:Int) l (gP lo))))):=by
 obtain⟨ws,ht,dO⟩:=hS;obtain⟨fP,we,vZ,eL,rfl,v9,nE,nD⟩:=ht;have Ah:=dO.len;have mM:=hO.two;have Bn:=(aB.1 hl).1;have Da:=zL hl;have FC:=hO.len _ Da;have hso:=(aB.1 qL).1;have aqI:=zL qL;have hr:=Dt (hO.ok _ aqI);have bfU:=hO.len _ aqI;refine zC [.l LM,.l Z]<|zD 2<|jn λb3=>jn λb4=>jd 8 [1,0]<|zxs ws s eL 1 nE (λx17 Nw=>?_);obtain⟨V9,Wy,h18⟩:=dO.get Nw;obtain aSK:=hO.len _ (zL Wy);obtain kX:V9=l:=aJ (Wy.symm.trans hl);obtain beI:=hO.ok _ (zL Wy);obtain⟨av5,aPq,aPo,anX,rfl,aPp,aFm,aFl⟩:=h18;refine jl 0 (nD _ _ Nw)<|jd 4 [1,0]<|zxs ws o eL 1 nE (λxJ qD=>?_);obtain⟨l24,Wx,h24⟩:=dO.get qD;obtain bs6:=hO.len _ (zL Wx);obtain NG:l24=lo:=aJ (Wx.symm.trans qL);obtain aRU:=hO.ok _ (zL Wx);obtain⟨brc,brb,bq9,aPi,rfl,bra,aPh,aPg⟩:=h24;refine jl 0 (nD _ _ qD)<|zD 10<|zW ((V9.length:Int)+(l24.length:Int))<|zD 2<|zJ 30 (((V9.length:Int)+(l24.length:Int))>8) (λh1=>?_) λh1=>?_
 ·
  refine zD 6<|zR _ [] [2,3] _ ⟨F,LM,Z,by rw[join_6 (by rw[<-kX,<-NG];omega)],rfl,hm,hk,λe=>absurd ((join_6 (by rw[<-kX,<-NG];omega)).symm.trans e) (by decide)⟩
 refine zD 18<|jct [1,1,1,1,1] [] (λ(zz:Int)=>[(2,(.map (some rm))),(4,zP b4),(6,zI 0),(7,.slice av5 V9.length anX),(9,zI zz)]) (λzz=>[.l LM,.l Z,zxc b4 100 [zI ck,zI (s:Int),zI (o:Int),zI c3,zI c4,zI c5,zI c6],zxc b3 24 [.slice fP ws.length eL]]) (λzz=>zz=gP lo) ?_ (λK1 cX=>?_)
 ·
  rintro q hQ rest;refine zD 8<|iE [1,1,1,1,1,0,1,0,0] [] (λ(zz:Nat×(List (ar×Value))×Cells×Cells)=>[(2,(.map (some rm))),(4,zP b4),(9,zI q),(49,.slice av5 V9.length anX),(50,zI (V9.length:Int)),(51,zI (zz.1:Int))]) (λ(zz:Nat×(List (ar×Value))×Cells×Cells)=>[.l zz.2.2.1,.l zz.2.2.2,zxc b4 100 [zI ck,zI (s:Int),zI (o:Int),zI c3,zI c4,zI c5,zI c6],zxc b3 24 [.slice fP ws.length eL]]) (λ(zz:Nat×(List (ar×Value))×Cells×Cells)=>(zz.1<=V9.length/\∀x∈V9.take zz.1,¬x.n+gP lo>40)/\iq rm mh zz.2.1 zz.2.2.1/\zz.2.1.map (·.1)=aI S/\MV zz.2.2.2 zz.2.1 (gU ((Ii (s:Int) (o:Int) l (gP lo)).take zz.1))) (λ(zz:Nat×(List (ar×Value))×Cells×Cells)=>V9.length-zz.1) (⟨0,F,LM,Z⟩) ⟨⟨by dsimp only;omega,λ_ h=>by simp at h⟩,hm,hk,hM⟩ (zN 0 4) ?_;rintro⟨i,F,LM,Z⟩ hI K2 mb rest;dsimp only at hI;refine zD 5<|zJ 52 ((i:Int) <(V9.length:Int)) (λh2=>?_) λh2=>?_
  ·
   refine zD 6<|zxt V9 i anX 2 aFm aFl λx53 aaz=>jn λHv=>jd 4 [0] ?_;have SO:=beI _ (zL aaz);have bfb:=SO.1.1;have bfa:=SO.1.2;refine jd 4 [0]<|zW (x53.n+q)<|zD 2<|zJ 59 ((x53.n+q)>40) (λh3=>?_) λh3=>?_
   ·
    refine zD 6<|zR _ [] [1,2] _ ⟨F,LM,Z,by rw[join_1 (by rw[<-kX,<-NG];omega) (zL (by rw[<-kX];exact aaz)) (by rw[<-hQ];assumption)],rfl,hI.2.1,hI.2.2.1,λe=>absurd ((join_1 (by rw[<-kX,<-NG];omega) (zL (by rw[<-kX];exact aaz)) (by rw[<-hQ];assumption)).symm.trans e) (by decide)⟩
   refine jd 13 [3,0,3,0]<|zW (x53.n+q)<|jd 2 [0]<|zxp [zI (o:Int),zI (x53.n+q),zI x53.l] (λhs=>gAt)<|zxo 14 λwA=>jn λb74=>eP wA (zN 1 5)<|zxo 15 λuD=>XZ (kv:=mh) (F:=F) (r:=rm) (K:=41) 2 (eV (s:Int) x53) (.slice (some ⟨b74,0,none⟩) 1 1) wM hI.2.1 λLm6 hm6=>kV uD<|zD 2<|zW ((i:Int)+1)<|zD 2 ?_;have Ny:=MV.upd (T:=41) (b:=b74) (y:=⟨o,x53.n+q,x53.l⟩) hO hI.2.2.2 hI.2.2.1 hl (by rw[<-kX];exact zL aaz);exact zV mb (⟨i+1,_,Lm6,Z++[(b74,.cells ⟨[zI (o:Int),zI (x53.n+q),zI x53.l]⟩ 41 (0,0))]⟩) ⟨⟨by dsimp only;omega,I4 hI.1.2 aaz (by rw[<-hQ];assumption)⟩,hm6,Ny.2,by rw[cU (axC (by rw[<-kX];exact aaz))];have e:=Ny.1;rw[hQ] at e ⊢;exact e⟩ [[0],[3,1],[4],[5]]
  refine zD 7 ?_;have hj0:=join_0 (by rw[<-kX,<-NG];omega) (show ∀x∈l,¬x.n+gP lo>40 from by have:=hI.1.2;rw[bF (by omega),kX] at this;exact this);exact zR _ [] [0,1] _ ⟨F,LM,Z,by rw[hj0],rfl,hI.2.1,hI.2.2.1,λ_=>by have:=hI.2.2.2;rwa[bF (by simp only[Ii,dj];rw[<-kX];omega)] at this⟩
 refine zJ 34 ((l24.length:Int)>0) (λh7=>?_) λh7=>?_
 ·
  refine zD 4<|zW ((l24.length:Int)-1) ?_;obtain⟨x38,GV⟩:=zG l24 ((((l24.length:Int)-1)).toNat);refine jsi ((l24.length:Int)-1) aPi 2 aPh GV (by omega)<|zD 1<|jl 0 (aPg _ _ GV)<|zD 2<|zW ((l24.length:Int)-1) ?_;obtain⟨XX,Wt⟩:=zG l24 ((((l24.length:Int)-1)).toNat);refine jsi ((l24.length:Int)-1) aPi 2 aPh Wt (by omega)<|zD 1<|jl 0 (aPg _ _ Wt)<|zD 1<|ja (x38.n+(Int.tmod XX.n 2)) (by have h1:=(aRU _ (zL GV)).1;have h2:=(aRU _ (zL Wt)).1;have:=tm2 h2;omega) ?_;refine zD 2 ?_;have hra:=raise_at GV;rw[NG] at hra;exact zY cX (x38.n+(Int.tmod XX.n 2)) (by rw[<-NG];have e:x38=XX:=aJ (GV.symm.trans Wt);subst e;exact(raise_at GV).symm) [2,3,0,1]
 refine zD 2<|dY cX 0 (by rw[<-NG];exact(ajk (by omega)).symm) aW [2,3,0,1] (Sub.refl _)
def rQ(l:List ax)(n:Int):Nat->Int->Int
 |0,k=>k
 |f+1,k=>bif decide (bM (cz n k) l 0>=0) then rQ l n f (k+1) else k
def aBj{l:List ax}{q:Int}{k:Nat}(hk:k<=4)(h:bM (cz n q) l 0>=0):rQ l n (5-k) q=rQ l n (5-(k+1)) (q+1):=by
 rw[show 5-k=(5-(k+1))+1 by omega];simp_all[rQ,cH]
theorem ahd{l:List ax}{q:Int}{k:Nat}(hk:k<=4)(h:¬bM (cz n q) l 0>=0):rQ l n (5-k) q=q:=by
 rw[show 5-k=(5-(k+1))+1 by omega];simp_all[rQ,cG,fJ]
def Ec(l:List ax)(n t:Int):Int:=bif !decide (bM (cz n t) l 0>=0) then 3 else bif decide (rQ l n 5 1>4) then 6 else 0
theorem div_3{l:List ax}(h:(!decide (bM (cz n t) l 0>=0))=true):Ec l n t=3:=by grind [Ec]
theorem div_6{l:List ax}(h:(!decide (bM (cz n t) l 0>=0))=false)(h2:rQ l n 5 1>4):Ec l n t=6:=by grind [Ec,cb]
theorem div_0{l:List ax}(h:(!decide (bM (cz n t) l 0>=0))=false)(h2:¬rQ l n 5 1>4):Ec l n t=0:=by grind [Ec,cG]
def La(s:Int)(l:List ax)(n t:Int):List (ar×List ar):=[(⟨s,n,t⟩,[⟨s,n,t⟩,⟨s,n,rQ l n 5 1⟩])]
def MV.ave{S:List (List ax)}(hO:cg S){F:List (ar×Value)}{u:List (ar×List ar)}{k x y:ar}{b:Nat}(h:MV Z F (gU u))(hk:F.map (·.1)=aI S)(hm:k∈aI S):
 MV (Z++[(b,.cells ⟨bL x++bL y⟩ T (0,0))]) (jL k (.slice (some ⟨b,0,none⟩) 2 2) F) (gU (u++[(k,[x,y])]))/\(jL k (.slice (some ⟨b,0,none⟩) 2 2) F).map (·.1)=aI S:=
 h.aNn hO hk hm λbU hk=>fK [x,y] (hk _ (.head _)) (λ_ _=>rfl)
def asu{v:Value}{S:List (List ax)}{s:Nat}{l:List ax}{c2 c3 c4:Int}{F:List (ar×Value)}(hS:bH ro v S)(hO:cg S)(hl:S[s]?=some l) (hm:iq rm mh F LM) (hk:F.map (·.1)=aI S) (hM:MV Z F rO):eW zT 264 [.agg ⟨[v]⟩,.agg ⟨[zI ck,zI (s:Int),zI c2,zI c3,zI c4,zI c5,zI c6]⟩,(.map (some rm))] ro (LM++Z) (λr Y=>∃F' L' Z',r= zI (Ec l c3 c4)/\Y=L'++Z'/\iq rm mh F' L'/\F'.map (·.1)=aI S/\((Ec l c3 c4)=0->MV Z' F' (gU (La (s:Int) l c3 c4)))):=by
 obtain⟨ws,ht,dO⟩:=hS;obtain⟨fP,we,vZ,eL,rfl,v9,nE,nD⟩:=ht;have Ah:=dO.len;have mM:=hO.two;have Bn:=(aB.1 hl).1;have Da:=zL hl;have FC:=hO.len _ Da;refine zC [.l LM,.l Z]<|zD 2<|jn λb3=>jn λb4=>jd 8 [1,0]<|zxs ws s eL 1 nE (λu4 iB=>?_);obtain⟨C5,Kq,WT⟩:=dO.get iB;obtain aHB:=hO.len _ (zL Kq);obtain FH:C5=l:=aJ (Kq.symm.trans hl);obtain aGR:=hO.ok _ (zL Kq);obtain⟨Py,an2,an0,HW,rfl,an1,Zj,Zi⟩:=WT;refine jl 0 (nD _ _ iB)<|jd 8 [0]<|zxp [.slice Py C5.length HW,.agg ⟨[zI c3,zI c4]⟩] (λhs=>Kb ((show dq _ _ _ _ _ from ⟨Py,an2,an0,HW,rfl,an1,Zj,Zi⟩).up hs) (by first|omega| (simp only[aO,zM];omega))) ?_;refine zD 2<|js 20 (!(decide (bM (cz c3 c4) C5 0>=0))) (λh1=>?_) (λh1=>?_)
 ·
  refine zD 6<|zR _ [] [2,3] _ ⟨F,LM,Z,by rw[div_3 (show (!decide (bM (cz c3 c4) l 0>=0))=true from (by rw[<-FH];assumption))],rfl,hm,hk,λe=>absurd ((div_3 (show (!decide (bM (cz c3 c4) l 0>=0))=true from (by rw[<-FH];assumption))).symm.trans e) (by decide)⟩
 refine zD 8<|iE [1,1,1,1,0,0,0] [] (λ(zz:Nat×Int)=>[(2,(.map (some rm))),(4,zP b4),(6,zI 0),(7,.slice Py C5.length HW),(8,zI zz.2)]) (λzz=>[.l LM,.l Z,zxc b4 100 [zI ck,zI (s:Int),zI c2,zI c3,zI c4,zI c5,zI c6],zxc b3 24 [.slice fP ws.length eL]]) (λzz=>zz.1<=4/\zz.2=(zz.1:Int)+1/\rQ l c3 5 1=rQ l c3 (5-zz.1) zz.2) (λzz=>5-zz.1) (⟨0,1⟩) ⟨by omega,rfl,rfl⟩ [2,3,0,1] ?_;rintro⟨k,q⟩ hI K1 cX rest;dsimp only at hI;refine jd 9 [2]<|zxp [.slice Py C5.length HW,.agg ⟨[zI c3,zI q]⟩] (λhs=>Kb ((show dq _ _ _ _ _ from ⟨Py,an2,an0,HW,rfl,an1,Zj,Zi⟩).up hs) (by first|omega| (simp only[List.length_set,zM];omega))) ?_;refine zD 1<|js 27 (decide (bM (cz c3 q) C5 0>=0)) (λh2=>?_) (λh2=>?_)
 ·
  refine zD 5<|zW (q+1)<|zD 2 ?_;have uB:=H0 (show bM (cz c3 q) C5 0>=0 from of_decide_eq_true (by assumption));have dS:=(aGR _ uB).2.2;exact zY cX (⟨k+1,(q+1)⟩) ⟨by dsimp only at dS ⊢;omega,by dsimp only;omega,by dsimp only;rw[hI.2.2];exact aBj hI.1 (by rw[<-FH];exact of_decide_eq_true (by assumption))⟩ [0,1,2,3]
 refine zD 9<|js 33 (decide ((C5.length:Int)>=8)) (λh3=>?_) (λh3=>?_)
 ·
  have wC:=h3;replace wC:=ai wC;exfalso;omega
 have wC:=h3;replace wC:=ah wC;refine zD 4<|zJ 36 (q>4) (λh4=>?_) λh4=>?_
 ·
  refine zD 6<|zR _ [] [0,1] _ ⟨F,LM,Z,by rw[div_6 (show (!decide (bM (cz c3 c4) l 0>=0))=false from (by rw[<-FH];assumption)) (by rw[(show rQ l c3 5 1=q from by rw[hI.2.2,ahd hI.1 (by rw[<-FH];exact ah (by assumption))])];assumption)],rfl,hm,hk,λe=>absurd ((div_6 (show (!decide (bM (cz c3 c4) l 0>=0))=false from (by rw[<-FH];assumption)) (by rw[(show rQ l c3 5 1=q from by rw[hI.2.2,ahd hI.1 (by rw[<-FH];exact ah (by assumption))])];assumption)).symm.trans e) (by decide)⟩
 refine jd 9 [2,2]<|jn λb9=>jd 13 [0,0,0,3,3]<|zxp [zI (s:Int),zI c3,zI q] (λhs=>gAt)<|zxo 10 λDX=>jn λb52=>eP DX (zN 1 5)<|zxo 11 λwA=>XZ (kv:=mh) (F:=F) (r:=rm) (K:=41) 2 (⟨(s:Int),c3,c4⟩:ar) (.slice (some ⟨b52,0,none⟩) 2 2) wM hm λLm7 hm7=>kV wA<|zD 6 ?_;have hq:=(show rQ l c3 5 1=q from by rw[hI.2.2,ahd hI.1 (by rw[<-FH];exact ah (by assumption))]);have Ny:=MV.ave (T:=41) (b:=b52) (u:=[]) (k:=eV (s:Int) ⟨c3,c4⟩) (x:=⟨s,c3,c4⟩) (y:=⟨s,c3,q⟩) hO hM hk (BW hl (apO (show (!decide (bM (cz c3 c4) l 0>=0))=false from (by rw[<-FH];assumption))));exact zR _ [] [0,3,1] _ ⟨_,Lm7,_,by rw[div_0 (show (!decide (bM (cz c3 c4) l 0>=0))=false from (by rw[<-FH];assumption)) (by rw[hq];assumption)],rfl,hm7,Ny.2,λ_=>by have:=Ny.1;simp only[La,hq];exact this⟩
def vz(l:List ax)(k:Nat):List ax:=l.filter λx=>if k=0 then mI x.n else CW x.n
def Uo{l:List ax}{k:Nat}:(vz l k).length<=l.length:=sr _ _
def akD{l:List ax}{k:Nat}{x:ax}(h:x∈vz l k):x∈l:=(cN.1 h).1
def aJF{w v:Value}{l' l:List ax}{k:Nat}(he:l'=l)(hx:([.func (.func 296) ⟨[]⟩ ⟨[]⟩,.func (.func 297) ⟨[]⟩ ⟨[]⟩]:List Value)[k]?=some w) (hl:dq ro v 2 cu l') (hn:l'.length<=6):eW zT 295 [v,w] ro [] (λr Y=>bJ r 2 39 cu (vz l k) Y):=by
 subst he
 match k,hx with
 |0,hx=>obtain rfl:=aJ hx;exact abh hl hn
 |1,hx=>obtain rfl:=aJ hx;exact abg hl hn
 |k+2,hx=>simp at hx
def Eh(s:Int)(k:Nat)(h:List ax):List (ar×List ar):=h.zipIdx.map λp=>(eV s p.1,[⟨s,2*(p.2:Int)+1+k,0⟩])
theorem akV{s:Int}{k:Nat}{h:List ax}{x:ax}(hx:h[i]?=some x):(Eh s k h)[i]?=some (eV s x,[⟨s,2*(i:Int)+1+k,0⟩]):=by
 grind [Eh]
theorem afw{s:Int}{k:Nat}{h:List ax}:(Eh s k h).length=h.length:=by simp[Eh]
def uP(s:Int)(l:List ax)(k:Nat):List (ar×List ar):=Eh s k (vz l k)
theorem UO{s:Int}{l:List ax}{k:Nat}{x:ax}(hx:(vz l k)[i]?=some x):(uP s l k)[i]?=some (eV s x,[⟨s,2*(i:Int)+1+k,0⟩]):=akV hx
def Ef(s:Int)(l:List ax):List (ar×List ar):=(List.range 2).flatMap (uP s l)
theorem anI{f:Nat->List α}{k:Nat}:(List.range (k+1)).flatMap f=(List.range k).flatMap f++f k:=by rw[Gi,jC,List.flatMap_singleton]
def asw{v:Value}{S:List (List ax)}{s:Nat}{l:List ax}{c2 c3 c4:Int}{F:List (ar×Value)}(hS:bH ro v S)(hO:cg S)(hl:S[s]?=some l) (hm:iq rm mh F LM) (hk:F.map (·.1)=aI S) (hM:MV Z F rO):eW zT 262 [.agg ⟨[v]⟩,.agg ⟨[zI ck,zI (s:Int),zI c2,zI c3,zI c4,zI c5,zI c6]⟩,(.map (some rm))] ro (LM++Z) (λr Y=>∃F' L' Z',r= zI 0/\Y=L'++Z'/\iq rm mh F' L'/\F'.map (·.1)=aI S/\MV Z' F' (gU (Ef (s:Int) l))):=by
 obtain⟨ws,ht,dO⟩:=hS;obtain⟨fP,we,vZ,eL,rfl,v9,nE,nD⟩:=ht;have Ah:=dO.len;have mM:=hO.two;have Bn:=(List.getElem?_eq_some_iff.1 hl).1;have Da:=zL hl;have FC:=hO.len _ Da;refine zC [.l LM,.l Z]<|zD 2<|jn λb3=>jn λb4=>zD 5<|jn λwE=>jf [0] [(wE,.cells ⟨[.func (.func 296) ⟨[]⟩ ⟨[]⟩,.func (.func 297) ⟨[]⟩ ⟨[]⟩]⟩ 364 (0,0))] (λAH fq gV=>?_);have hhv:=fK (enc:=ri) [.func (.func 296) ⟨[]⟩ ⟨[]⟩,.func (.func 297) ⟨[]⟩ ⟨[]⟩] (gV _ (.head _)) (λ_ _=>rfl);have hvl:([.func (.func 296) ⟨[]⟩ ⟨[]⟩,.func (.func 297) ⟨[]⟩ ⟨[]⟩]:List Value).length=2:=rfl;obtain⟨qga,qgb,qgo,qgc,X9,qgk,qgh,qgl⟩:=hhv;simp only[Value.slice.injEq] at X9;obtain⟨rfl,_,rfl⟩:=X9;refine zD 4<|iE [1,0,1,0,0] [] (λ(zz:Nat×(List (ar×Value))×Cells×Cells)=>[(2,(.map (some rm))),(3,zP b3),(4,zP b4),(6,zI 0),(11,.slice (some ⟨wE,0,none⟩) 2 2),(12,zI 2),(13,zI (zz.1:Int))]) (λ(zz:Nat×(List (ar×Value))×Cells×Cells)=>[.l zz.2.2.1,.l zz.2.2.2,zxc b4 100 [zI ck,zI (s:Int),zI c2,zI c3,zI c4,zI c5,zI c6],zxc b3 24 [.slice fP ws.length eL]]) (λ(zz:Nat×(List (ar×Value))×Cells×Cells)=>zz.1<=2/\iq rm mh zz.2.1 zz.2.2.1/\zz.2.1.map (·.1)=aI S/\MV zz.2.2.2 zz.2.1 (gU ((List.range zz.1).flatMap (uP (s:Int) l)))) (λ(zz:Nat×(List (ar×Value))×Cells×Cells)=>2-zz.1) (⟨0,F,LM,Z⟩) ⟨by dsimp only;omega,hm,hk,hM⟩ [2,3,0,1] ?_;rintro⟨k,F,LM,Z⟩ hI K1 cX rest;dsimp only at hI;refine zD 5<|zJ 14 ((k:Int) <2) (λh4=>?_) λh4=>?_
 ·
  refine zD 7<|zxt (([.func (.func 296) ⟨[]⟩ ⟨[]⟩,.func (.func 297) ⟨[]⟩ ⟨[]⟩]:List Value)) k 2 1 qgh qgl λx16 Qd=>jd 9 [3,2]<|zxs ws s eL 1 nE (λLY iQ=>?_);obtain⟨SD,Io,WS⟩:=dO.get iQ;obtain aHz:=hO.len _ (zL Io);obtain aq3:SD=l:=Option.some.inj (Io.symm.trans hl);obtain⟨yD,Nn,Nj,yC,rfl,Nl,Nm,Nk⟩:=WS;refine jl 0 ((nD _ _ iQ).ext (nG fq))<|zD 1<|jc (vs:=[.slice yD SD.length yC,x16]) [] (aJF aq3 Qd ((show dq _ _ _ _ _ from ⟨yD,Nn,Nj,yC,rfl,Nl,Nm,Nk⟩).up fq) (by omega)) ?_;rintro v25 L25 bfw;have Ui:=Uo (l:=l) (k:=k);refine jf [0] L25 (λro7 wO Jk=>?_);have hzk:=bfw.jI Jk;obtain⟨bbM,bqd,bqb,aOG,rfl,bqc,bbL,bbK⟩:=hzk;refine zD 4<|iE [1,0,1,0,0,1,1,0,0,1,1,0,0] [K1] (λ(zz:Nat×(List (ar×Value))×Cells×Cells)=>[(2,(.map (some rm))),(3,zP b3),(4,zP b4),(6,zI 0),(7,zI (k:Int)),(11,.slice (some ⟨wE,0,none⟩) 2 2),(12,zI 2),(13,zI (k:Int)),(25,.slice bbM ((vz l k).length) aOG),(26,zI ((vz l k).length:Int)),(27,zI (zz.1:Int))]) (λ(zz:Nat×(List (ar×Value))×Cells×Cells)=>[.l zz.2.2.1,.l zz.2.2.2,zxc b4 100 [zI ck,zI (s:Int),zI c2,zI c3,zI c4,zI c5,zI c6],zxc b3 24 [.slice fP ws.length eL]]) (λ(zz:Nat×(List (ar×Value))×Cells×Cells)=>zz.1<=(vz l k).length/\iq rm mh zz.2.1 zz.2.2.1/\zz.2.1.map (·.1)=aI S/\MV zz.2.2.2 zz.2.1 (gU ((List.range k).flatMap (uP (s:Int) l)++(uP (s:Int) l k).take zz.1))) (λ(zz:Nat×(List (ar×Value))×Cells×Cells)=>(vz l k).length-zz.1) (⟨0,F,LM,Z⟩) ⟨by dsimp only;omega,hI.2.1,hI.2.2.1,by simpa using hI.2.2.2⟩ (zN 0 4) ?_;rintro⟨i,F,LM,Z⟩ hJ K2 mb rest;dsimp only at hJ;refine zD 5<|zJ 28 ((i:Int) <((vz l k).length:Int)) (λh8=>?_) λh8=>?_
  ·
   refine zD 7<|zxt (vz l k) i aOG 2 bbL bbK λFp s7=>jn λFL=>jd 12 [0,3,0,3]<|zW (2*(i:Int))<|zW ((2*(i:Int))+1)<|zD 1<|zW (((2*(i:Int))+1)+(k:Int))<|zxp [zI (s:Int),zI (((2*(i:Int))+1)+(k:Int)),zI 0] (λhs=>gAt)<|zxo 13 λwA=>jn λb45=>eP wA (zN 1 5)<|zxo 14 λuD=>XZ (kv:=mh) (F:=F) (r:=rm) (K:=41) 2 (eV (s:Int) Fp) (.slice (some ⟨b45,0,none⟩) 1 1) wM hJ.2.1 λalx aeA=>kV uD<|zD 2<|zW ((i:Int)+1)<|zD 2 ?_;have Ny:=MV.upd (T:=41) (b:=b45) (y:=⟨s,2*(i:Int)+1+k,0⟩) hO hJ.2.2.2 hJ.2.2.1 hl (akD (zL s7));exact zV mb (⟨i+1,_,alx,Z++[(b45,.cells ⟨[zI (s:Int),zI (((2*(i:Int))+1)+(k:Int)),zI 0]⟩ 41 (0,0))]⟩) ⟨by dsimp only;omega,aeA,Ny.2,by rw[cU (UO s7),<-List.append_assoc];exact Ny.1⟩ [[0],[3,1],[4],[5]]
  refine zD 3<|zW ((k:Int)+1)<|zD 2<|dY cX (⟨k+1,F,LM,Z⟩) ⟨by dsimp only;omega,hJ.2.1,hJ.2.2.1,by have:=hJ.2.2.2;rw[List.take_of_length_le (l:=uP (s:Int) l k) (by rw[uP,afw];omega)] at this;rw[anI];exact this⟩ (by dsimp only;omega) (zN 0 4) wO
 refine zD 7<|bY q0.a (zI 0) [] [0,1] (LM++Z) fq ⟨_,_,rfl,rfl,F,LM,Z,rfl,rfl,hI.2.1,hI.2.2.1,by have:=hI.2.2.2;rwa[show k=2 by omega] at this⟩
theorem ID{p:α->Bool}:∀ {l:List α} {k:Nat},bM p l k <(l.length:Int)+k
 | [],k=>by grind [bM]
 |x::l,k=>by
  simp only[bM];have:=ID (p:=p) (l:=l) (k:=k+1)
  grind
theorem avw{l:List α}{a b:Nat}{x:α}(h:x∈(l.take a).drop b):x∈l:=by grind
def Fv(l:List ax)(a b:Int):List ax:=(l.take (b+1).toNat).drop a.toNat
def rU(s o:Int)(h:List ax):List (ar×List ar):=h.zipIdx.map λp=>(eV s p.1,[⟨o,(p.2:Int)+1,0⟩])
theorem UN{s o:Int}{h:List ax}{x:ax}(hx:h[i]?=some x):(rU s o h)[i]?=some (eV s x,[⟨o,(i:Int)+1,0⟩]):=by
 grind [rU]
theorem afv{s o:Int}{h:List ax}:(rU s o h).length=h.length:=by simp[rU]
def oR(l lo:List ax)(a b:Int):Int:=bif decide (a <0) then 3 else bif decide (b <0) then 3 else bif decide (b <a) then 5 else bif decide (lo.length>0) then 12 else 0
theorem IS{l lo:List ax}{a:Int}(h:a <0):oR l lo a b=3:=by grind [oR,cb]
theorem IQ{l lo:List ax}{a:Int}(h:¬a <0)(h2:b <0):oR l lo a b=3:=by grind [oR,cG,cb]
theorem IP{l lo:List ax}{a:Int}(h:¬a <0)(h2:¬b <0)(h3:b <a):oR l lo a b=5:=by grind [oR,cG,cb]
theorem IN{l lo:List ax}{a:Int}(h:¬a <0)(h2:¬b <0)(h3:¬b <a)(h4:lo.length>0):oR l lo a b=12:=by grind [oR,cG,cb]
theorem court_0{l lo:List ax}{a:Int}(h:¬a <0)(h2:¬b <0)(h3:¬b <a)(h4:¬lo.length>0):oR l lo a b=0:=by grind [oR,cG]
def asv{v:Value}{S:List (List ax)}{s:Nat}{l lo:List ax}{c3 c4:Int}{F:List (ar×Value)}(hS:bH ro v S)(hO:cg S)(hl:S[s]?=some l) (hm:iq rm mh F LM) (hk:F.map (·.1)=aI S) (hM:MV Z F rO) (qL:S[o]?=some lo):eW zT 266 [.agg ⟨[v]⟩,.agg ⟨[zI ck,zI (s:Int),zI (o:Int),zI c3,zI c4,zI c5,zI c6]⟩,(.map (some rm))] ro (LM++Z) (λr Y=>∃F' L' Z',r= zI (oR l lo (bM (cz c3 c4) l 0) (bM (cz c5 c6) l 0))/\Y=L'++Z'/\iq rm mh F' L'/\F'.map (·.1)=aI S/\((oR l lo (bM (cz c3 c4) l 0) (bM (cz c5 c6) l 0))=0->MV Z' F' (gU (rU (s:Int) (o:Int) (Fv l (bM (cz c3 c4) l 0) (bM (cz c5 c6) l 0)))))):=by
 obtain⟨ws,ht,dO⟩:=hS;obtain⟨fP,we,vZ,eL,rfl,v9,nE,nD⟩:=ht;have Ah:=dO.len;have mM:=hO.two;have Bn:=(aB.1 hl).1;have Da:=zL hl;have FC:=hO.len _ Da;have hso:=(aB.1 qL).1;have aqI:=zL qL;have hr:=Dt (hO.ok _ aqI);have bfU:=hO.len _ aqI;refine zC [.l LM,.l Z]<|zD 2<|jn λb3=>jn λb4=>jd 8 [1,0]<|zxs ws s eL 1 nE (λx16 Qd=>?_);obtain⟨CH,aSY,h17⟩:=dO.get Qd;obtain aSL:=hO.len _ (zL aSY);obtain qj:CH=l:=aJ (aSY.symm.trans hl);obtain⟨anZ,aFr,aFn,anY,rfl,aFp,aFq,aFo⟩:=h17;refine jl 0 (nD _ _ Qd)<|jd 10 [0,0]<|zxp [.slice anZ CH.length anY,.agg ⟨[zI c3,zI c4]⟩] (λhs=>P9 ((show dq _ _ _ _ _ from ⟨anZ,aFr,aFn,anY,rfl,aFp,aFq,aFo⟩).up hs) (by first|omega| (simp only[aO,zM];omega))) ?_;refine zxp [.slice anZ CH.length anY,.agg ⟨[zI c5,zI c6]⟩] (λhs=>P9 ((show dq _ _ _ _ _ from ⟨anZ,aFr,aFn,anY,rfl,aFp,aFq,aFo⟩).up hs) (by first|omega| (simp only[aO,zM];omega))) ?_;refine zD 3 ?_;have hb1:=ID (p:=cz c3 c4) (l:=CH) (k:=0);have kQ:=ID (p:=cz c5 c6) (l:=CH) (k:=0);have hb3:(((CH).take ((bM (cz c5 c6) CH 0)+1).toNat).drop (bM (cz c3 c4) CH 0).toNat).length<=CH.length:=by simp only[rq,cw];omega
 refine zD 7<|js 29 (decide ((bM (cz c3 c4) CH 0) <0)) (λh1=>?_) (λh1=>?_)
 ·
  have mA:=h1;replace mA:=ai mA;refine zD 11<|zR _ [] [2,3] _ ⟨F,LM,Z,by rw[IS (by rw[<-qj];omega)],rfl,hm,hk,λe=>absurd ((IS (by rw[<-qj];omega)).symm.trans e) (by decide)⟩
 have mA:=h1;replace mA:=ah mA;refine zD 5<|zJ 26 ((bM (cz c5 c6) CH 0) <0) (λh2=>?_) λh2=>?_
 ·
  refine zD 6<|zR _ [] [2,3] _ ⟨F,LM,Z,by rw[IQ (by rw[<-qj];omega) (by rw[<-qj];omega)],rfl,hm,hk,λe=>absurd ((IQ (by rw[<-qj];omega) (by rw[<-qj];omega)).symm.trans e) (by decide)⟩
 refine zD 8<|zJ 33 ((bM (cz c5 c6) CH 0) <(bM (cz c3 c4) CH 0)) (λh3=>?_) λh3=>?_
 ·
  refine zD 6<|zR _ [] [2,3] _ ⟨F,LM,Z,by rw[IP (by rw[<-qj];omega) (by rw[<-qj];omega) (by rw[<-qj];omega)],rfl,hm,hk,λe=>absurd ((IP (by rw[<-qj];omega) (by rw[<-qj];omega) (by rw[<-qj];omega)).symm.trans e) (by decide)⟩
 refine jd 7 [1,0]<|zxs ws o eL 1 nE (λx42 SJ=>?_);obtain⟨l43,aSU,h43⟩:=dO.get SJ;obtain bs4:=hO.len _ (zL aSU);obtain aH2:l43=lo:=aJ (aSU.symm.trans qL);obtain⟨bqV,bqU,bqP,bqT,rfl,bqR,bqS,bqQ⟩:=h43;refine jl 0 (nD _ _ SJ)<|zD 4<|zJ 37 ((l43.length:Int)>0) (λh4=>?_) λh4=>?_
 ·
  refine zD 6<|zR _ [] [2,3] _ ⟨F,LM,Z,by rw[IN (by rw[<-qj];omega) (by rw[<-qj];omega) (by rw[<-qj];omega) (by rw[<-aH2];omega)],rfl,hm,hk,λe=>absurd ((IN (by rw[<-qj];omega) (by rw[<-qj];omega) (by rw[<-qj];omega) (by rw[<-aH2];omega)).symm.trans e) (by decide)⟩
 refine zD 8<|zW ((bM (cz c5 c6) CH 0)+1)<|jcB (lo:=(bM (cz c3 c4) CH 0)) (hi:=((bM (cz c5 c6) CH 0)+1)) (show dq _ _ _ _ _ from ⟨anZ,aFr,aFn,anY,rfl,aFp,aFq,aFo⟩) (by omega) (λv50 beT=>?_);obtain⟨aOZ,bl2,bl0,aAX,rfl,bl1,aOY,aOX⟩:=beT;refine zD 4<|iE [1,1,1,1,0,1,0,0] [] (λ(zz:Nat×(List (ar×Value))×Cells×Cells)=>[(2,(.map (some rm))),(4,zP b4),(6,zI 0),(50,.slice aOZ (((((CH).take ((bM (cz c5 c6) CH 0)+1).toNat).drop (bM (cz c3 c4) CH 0).toNat)).length) aAX),(51,zI (((((CH).take ((bM (cz c5 c6) CH 0)+1).toNat).drop (bM (cz c3 c4) CH 0).toNat)).length:Int)),(52,zI (zz.1:Int))]) (λ(zz:Nat×(List (ar×Value))×Cells×Cells)=>[.l zz.2.2.1,.l zz.2.2.2,zxc b4 100 [zI ck,zI (s:Int),zI (o:Int),zI c3,zI c4,zI c5,zI c6],zxc b3 24 [.slice fP ws.length eL]]) (λ(zz:Nat×(List (ar×Value))×Cells×Cells)=>zz.1<=(((CH).take ((bM (cz c5 c6) CH 0)+1).toNat).drop (bM (cz c3 c4) CH 0).toNat).length/\iq rm mh zz.2.1 zz.2.2.1/\zz.2.1.map (·.1)=aI S/\MV zz.2.2.2 zz.2.1 (gU ((rU (s:Int) (o:Int) (((CH).take ((bM (cz c5 c6) CH 0)+1).toNat).drop (bM (cz c3 c4) CH 0).toNat)).take zz.1))) (λ(zz:Nat×(List (ar×Value))×Cells×Cells)=>(((CH).take ((bM (cz c5 c6) CH 0)+1).toNat).drop (bM (cz c3 c4) CH 0).toNat).length-zz.1) (⟨0,F,LM,Z⟩) ⟨by dsimp only;omega,hm,hk,hM⟩ [2,3,0,1] ?_;rintro⟨i,F,LM,Z⟩ hI K1 cX rest;dsimp only at hI;refine zD 5<|zJ 53 ((i:Int) <(((((CH).take ((bM (cz c5 c6) CH 0)+1).toNat).drop (bM (cz c3 c4) CH 0).toNat)).length:Int)) (λh5=>?_) λh5=>?_
 ·
  refine zD 7<|zxt (((CH).take ((bM (cz c5 c6) CH 0)+1).toNat).drop (bM (cz c3 c4) CH 0).toNat) i aAX 2 aOY aOX λx55 axQ=>jn λwE=>jd 12 [0,3,0,3]<|zW ((i:Int)+1)<|zxp [zI (o:Int),zI ((i:Int)+1),zI 0] (λhs=>gAt)<|zxo 10 λDX=>jn λb67=>eP DX (zN 1 5)<|zxo 11 λwA=>XZ (kv:=mh) (F:=F) (r:=rm) (K:=41) 2 (eV (s:Int) x55) (.slice (some ⟨b67,0,none⟩) 1 1) wM hI.2.1 λLm8 hm8=>kV wA<|zD 2<|zW ((i:Int)+1)<|zD 2 ?_;have Ny:=MV.upd (T:=41) (b:=b67) (y:=⟨o,(i:Int)+1,0⟩) hO hI.2.2.2 hI.2.2.1 hl (qj▸avw (zL axQ));exact zV cX (⟨i+1,_,Lm8,Z++[(b67,.cells ⟨[zI (o:Int),zI ((i:Int)+1),zI 0]⟩ 41 (0,0))]⟩) ⟨by dsimp only;omega,hm8,Ny.2,by rw[cU (UN axQ)];exact Ny.1⟩ [[0],[3,1],[4],[5]]
 refine zD 7 ?_;have he0:=court_0 (l:=l) (lo:=lo) (a:=bM (cz c3 c4) l 0) (b:=bM (cz c5 c6) l 0) (by rw[<-qj];omega) (by rw[<-qj];omega) (by rw[<-qj];omega) (by rw[<-aH2];omega);exact zR _ [] [0,1] _ ⟨F,LM,Z,by rw[he0],rfl,hI.2.1,hI.2.2.1,λ_=>by have:=hI.2.2.2;rw[bF (by rw[afv];omega),qj] at this;exact this⟩
def qM{lo:Int}(h:lo<=n/\n<=hi):iz zT 164 [zI n,zI lo,zI hi] ro (.bool true):=by
 have h1:=ayI (n:=n) (lo:=lo) (hi:=hi) (ro:=ro);rwa[show pF n lo hi=true by simp only[pF,au,aA];exact h] at h1
def QN:iz zT 224 [] ro (.agg ⟨[.nilFunc,.func (.func 260) ⟨[]⟩ ⟨[]⟩,.func (.func 261) ⟨[]⟩ ⟨[]⟩,.func (.func 262) ⟨[]⟩ ⟨[]⟩,.func (.func 263) ⟨[]⟩ ⟨[]⟩,.func (.func 264) ⟨[]⟩ ⟨[]⟩,.func (.func 265) ⟨[]⟩ ⟨[]⟩,.func (.func 266) ⟨[]⟩ ⟨[]⟩]⟩):=by
 refine zE<|zD 2<|jn λb0=>jd 7 [0]<|zR _ [0] [] [] ⟨rfl,rfl⟩
def aJP{v:Value}{S:List (List ax)}{s:Nat}{l:List ax}(hS:bH ro v S)(hO:cg S)(hl:S[s]?=some l):eW zT 170 [.agg ⟨[v]⟩,.agg ⟨[zI 1,zI (s:Int),zI 0,zI 0,zI 0,zI 0,zI 0]⟩] ro [] (λr Y=>((((0):Int)≠0/\r= .tuple ⟨[.map none,zI (0)]⟩/\Y=[])\/(((0):Int)=0/\∃rm F LM Z,r= .tuple ⟨[.map (some rm),zI 0]⟩/\Y=LM++Z/\iq rm mh F LM/\F.map (·.1)=aI S/\MV Z F (gU (Me (s:Int) l))))):=by
 have mM:=hO.two;have mY:=hS;obtain⟨ws,ht,dO⟩:=hS;obtain⟨fP,we,vZ,eL,rfl,v9,nE,nD⟩:=ht;have Ah:=dO.len;have Bn:=(aB.1 hl).1;refine zE<|zD 2<|jn λb2=>jn λb3=>jd 8 [0]<|zxp [zI 1,zI 1,zI 7] (λhs=>qM (by omega))<|jd 17 [1,0]<|zW ((ws.length:Int)-1)<|zxp [zI (s:Int),zI 0,zI ((ws.length:Int)-1)] (λhs=>qM (by omega))<|jd 70 [0,0,0,0,0,0]<|jne GF (ye 0 0 0 0)<|zD 3<|js 73 (!(0==0&&(0==0&&true))) (λh1=>?_) (λh1=>?_)
 ·
  have mA:=h1
  try simp only[zB] at mA
  exact absurd mA (by decide)
 have mA:=h1
 try simp only[zB] at mA
 refine jd 6 [0]<|jne GF (ye 0 0 0 0)<|zD 3<|js 82 (!(0==0&&(0==0&&true))) (λh2=>?_) (λh2=>?_)
 ·
  exact absurd h2 (by decide)
 refine jd 5 [1]<|jc (vs:=[.agg ⟨[.slice fP ws.length eL]⟩]) [] (MN (mY) hO) ?_;rintro _ _ ⟨rm,F,LM,Z,rfl,rfl,hmM,hkM,hMM⟩;refine jg 0 [.l LM,.l Z]<|jd 10 [2,3,2]<|zxr (λhs=>QN)<|zD 1<|zxo 7 λtT=>jc (vs:=[.agg ⟨[.slice fP ws.length eL]⟩,.agg ⟨[zI 1,zI (s:Int),zI 0,zI 0,zI 0,zI 0,zI 0]⟩,(.map (some rm))]) [0,1] (ayD (s:=s) mY hO hl hmM hkM hMM) ?_;rintro _ _ ⟨F2,Ly,Z2,rfl,rfl,yx,gV,hM2⟩;refine jg 0 [.l Ly,.l Z2]<|eE tT [[2]]<|zD 16<|zR _ [] [0,1] _ (.inr ⟨rfl,rm,F2,Ly,Z2,rfl,rfl,yx,gV,hM2⟩)
def aJO{v:Value}{S:List (List ax)}{s:Nat}{l:List ax}(hS:bH ro v S)(hO:cg S)(hl:S[s]?=some l):eW zT 170 [.agg ⟨[v]⟩,.agg ⟨[zI 2,zI (s:Int),zI 0,zI 0,zI 0,zI 0,zI 0]⟩] ro [] (λr Y=>((((0):Int)≠0/\r= .tuple ⟨[.map none,zI (0)]⟩/\Y=[])\/(((0):Int)=0/\∃rm F LM Z,r= .tuple ⟨[.map (some rm),zI 0]⟩/\Y=LM++Z/\iq rm mh F LM/\F.map (·.1)=aI S/\MV Z F (gU (FR (s:Int) l))))):=by
 have mM:=hO.two;have mY:=hS;obtain⟨ws,ht,dO⟩:=hS;obtain⟨fP,we,vZ,eL,rfl,v9,nE,nD⟩:=ht;have Ah:=dO.len;have Bn:=(aB.1 hl).1;refine zE<|zD 2<|jn λb2=>jn λb3=>jd 8 [0]<|zxp [zI 2,zI 1,zI 7] (λhs=>qM (by omega))<|jd 17 [1,0]<|zW ((ws.length:Int)-1)<|zxp [zI (s:Int),zI 0,zI ((ws.length:Int)-1)] (λhs=>qM (by omega))<|jd 70 [0,0,0,0,0,0]<|jne GF (ye 0 0 0 0)<|zD 3<|js 73 (!(0==0&&(0==0&&true))) (λh1=>?_) (λh1=>?_)
 ·
  have mA:=h1
  try simp only[zB] at mA
  exact absurd mA (by decide)
 have mA:=h1
 try simp only[zB] at mA
 refine jd 6 [0]<|jne GF (ye 0 0 0 0)<|zD 3<|js 82 (!(0==0&&(0==0&&true))) (λh2=>?_) (λh2=>?_)
 ·
  exact absurd h2 (by decide)
 refine jd 5 [1]<|jc (vs:=[.agg ⟨[.slice fP ws.length eL]⟩]) [] (MN (mY) hO) ?_;rintro _ _ ⟨rm,F,LM,Z,rfl,rfl,hmM,hkM,hMM⟩;refine jg 0 [.l LM,.l Z]<|jd 10 [2,3,2]<|zxr (λhs=>QN)<|zD 1<|zxo 7 λtT=>jc (vs:=[.agg ⟨[.slice fP ws.length eL]⟩,.agg ⟨[zI 2,zI (s:Int),zI 0,zI 0,zI 0,zI 0,zI 0]⟩,(.map (some rm))]) [0,1] (ast (s:=s) mY hO hl hmM hkM hMM) ?_;rintro _ _ ⟨F2,Ly,Z2,rfl,rfl,yx,gV,hM2⟩;refine jg 0 [.l Ly,.l Z2]<|eE tT [[2]]<|zD 16<|zR _ [] [0,1] _ (.inr ⟨rfl,rm,F2,Ly,Z2,rfl,rfl,yx,gV,hM2⟩)
def aJN{v:Value}{S:List (List ax)}{s:Nat}{l:List ax}(hS:bH ro v S)(hO:cg S)(hl:S[s]?=some l):eW zT 170 [.agg ⟨[v]⟩,.agg ⟨[zI 3,zI (s:Int),zI 0,zI 0,zI 0,zI 0,zI 0]⟩] ro [] (λr Y=>((((0):Int)≠0/\r= .tuple ⟨[.map none,zI (0)]⟩/\Y=[])\/(((0):Int)=0/\∃rm F LM Z,r= .tuple ⟨[.map (some rm),zI 0]⟩/\Y=LM++Z/\iq rm mh F LM/\F.map (·.1)=aI S/\MV Z F (gU (Ef (s:Int) l))))):=by
 have mM:=hO.two;have mY:=hS;obtain⟨ws,ht,dO⟩:=hS;obtain⟨fP,we,vZ,eL,rfl,v9,nE,nD⟩:=ht;have Ah:=dO.len;have Bn:=(aB.1 hl).1;refine zE<|zD 2<|jn λb2=>jn λb3=>jd 8 [0]<|zxp [zI 3,zI 1,zI 7] (λhs=>qM (by omega))<|jd 17 [1,0]<|zW ((ws.length:Int)-1)<|zxp [zI (s:Int),zI 0,zI ((ws.length:Int)-1)] (λhs=>qM (by omega))<|jd 70 [0,0,0,0,0,0]<|jne GF (ye 0 0 0 0)<|zD 3<|js 73 (!(0==0&&(0==0&&true))) (λh1=>?_) (λh1=>?_)
 ·
  have mA:=h1
  try simp only[zB] at mA
  exact absurd mA (by decide)
 have mA:=h1
 try simp only[zB] at mA
 refine jd 6 [0]<|jne GF (ye 0 0 0 0)<|zD 3<|js 82 (!(0==0&&(0==0&&true))) (λh2=>?_) (λh2=>?_)
 ·
  exact absurd h2 (by decide)
 refine jd 5 [1]<|jc (vs:=[.agg ⟨[.slice fP ws.length eL]⟩]) [] (MN (mY) hO) ?_;rintro _ _ ⟨rm,F,LM,Z,rfl,rfl,hmM,hkM,hMM⟩;refine jg 0 [.l LM,.l Z]<|jd 10 [2,3,2]<|zxr (λhs=>QN)<|zD 1<|zxo 7 λtT=>jc (vs:=[.agg ⟨[.slice fP ws.length eL]⟩,.agg ⟨[zI 3,zI (s:Int),zI 0,zI 0,zI 0,zI 0,zI 0]⟩,(.map (some rm))]) [0,1] (asw (s:=s) mY hO hl hmM hkM hMM) ?_;rintro _ _ ⟨F2,Ly,Z2,rfl,rfl,yx,gV,hM2⟩;refine jg 0 [.l Ly,.l Z2]<|eE tT [[2]]<|zD 16<|zR _ [] [0,1] _ (.inr ⟨rfl,rm,F2,Ly,Z2,rfl,rfl,yx,gV,hM2⟩)
def aJM{v:Value}{S:List (List ax)}{s:Nat}{l:List ax}{lo:List ax}(hS:bH ro v S)(hO:cg S)(hl:S[s]?=some l) (qL:S[o]?=some lo) (eo:s≠o):eW zT 170 [.agg ⟨[v]⟩,.agg ⟨[zI 4,zI (s:Int),zI (o:Int),zI 0,zI 0,zI 0,zI 0]⟩] ro [] (λr Y=>(((((r5 l lo)):Int)≠0/\r= .tuple ⟨[.map none,zI ((r5 l lo))]⟩/\Y=[])\/((((r5 l lo)):Int)=0/\∃rm F LM Z,r= .tuple ⟨[.map (some rm),zI 0]⟩/\Y=LM++Z/\iq rm mh F LM/\F.map (·.1)=aI S/\MV Z F (gU (Ii (s:Int) (o:Int) l (gP lo)))))):=by
 have mM:=hO.two;have mY:=hS;obtain⟨ws,ht,dO⟩:=hS;obtain⟨fP,we,vZ,eL,rfl,v9,nE,nD⟩:=ht;have Ah:=dO.len;have Bn:=(aB.1 hl).1;have hso:=(aB.1 qL).1;refine zE<|zD 2<|jn λb2=>jn λb3=>jd 8 [0]<|zxp [zI 4,zI 1,zI 7] (λhs=>qM (by omega))<|jd 17 [1,0]<|zW ((ws.length:Int)-1)<|zxp [zI (s:Int),zI 0,zI ((ws.length:Int)-1)] (λhs=>qM (by omega))<|jd 32 [0,0,0,0]<|zW ((ws.length:Int)-1)<|zxp [zI (o:Int),zI 0,zI ((ws.length:Int)-1)] (λhs=>qM (by omega))<|jd 17 [0,0]<|zJ 55 ((o:Int)=(s:Int)) (λh1=>?_) λh1=>?_
 ·
  exfalso;omega
 refine jd 19 [0]<|jne GF (ye 0 0 0 0)<|zD 3<|js 73 (!(0==0&&(0==0&&true))) (λh2=>?_) (λh2=>?_)
 ·
  have n6:=h2
  try simp only[zB] at n6
  exact absurd n6 (by decide)
 have n6:=h2
 try simp only[zB] at n6
 refine jd 6 [0]<|jne GF (ye 0 0 0 0)<|zD 3<|js 82 (!(0==0&&(0==0&&true))) (λh3=>?_) (λh3=>?_)
 ·
  exact absurd h3 (by decide)
 refine jd 5 [1]<|jc (vs:=[.agg ⟨[.slice fP ws.length eL]⟩]) [] (MN (mY) hO) ?_;rintro _ _ ⟨rm,F,LM,Z,rfl,rfl,hmM,hkM,hMM⟩;refine jg 0 [.l LM,.l Z]<|jd 10 [2,3,2]<|zxr (λhs=>QN)<|zD 1<|zxo 7 λtT=>jc (vs:=[.agg ⟨[.slice fP ws.length eL]⟩,.agg ⟨[zI 4,zI (s:Int),zI (o:Int),zI 0,zI 0,zI 0,zI 0]⟩,(.map (some rm))]) [0,1] (ayE (s:=s) (o:=o) mY hO hl hmM hkM hMM qL) ?_;rintro _ _ ⟨F2,Ly,Z2,rfl,rfl,yx,gV,hM2⟩;refine jg 0 [.l Ly,.l Z2]<|eE tT [[2]]<|zD 7<|js 94 (!decide ((r5 l lo)=0)) (λh5=>?_) (λh5=>?_)
 ·
  replace h5:=ah (by simpa using h5);refine zD 8<|zX _ (.inl ⟨by first|assumption| (simp_all;done),rfl,rfl⟩)
 replace h5:=ai (by simpa using h5);refine zD 9<|zR _ [] [0,1] _ (.inr ⟨by first|assumption| (simp_all;done),rm,F2,Ly,Z2,rfl,rfl,yx,gV,hM2 (by first|assumption| (simp_all;done))⟩)
def aJL{v:Value}{S:List (List ax)}{s:Nat}{l:List ax}{c3 c4:Int}(hS:bH ro v S)(hO:cg S)(hl:S[s]?=some l):eW zT 170 [.agg ⟨[v]⟩,.agg ⟨[zI 5,zI (s:Int),zI 0,zI c3,zI c4,zI 0,zI 0]⟩] ro [] (λr Y=>(((((Ec l c3 c4)):Int)≠0/\r= .tuple ⟨[.map none,zI ((Ec l c3 c4))]⟩/\Y=[])\/((((Ec l c3 c4)):Int)=0/\∃rm F LM Z,r= .tuple ⟨[.map (some rm),zI 0]⟩/\Y=LM++Z/\iq rm mh F LM/\F.map (·.1)=aI S/\MV Z F (gU (La (s:Int) l c3 c4))))):=by
 have mM:=hO.two;have mY:=hS;obtain⟨ws,ht,dO⟩:=hS;obtain⟨fP,we,vZ,eL,rfl,v9,nE,nD⟩:=ht;have Ah:=dO.len;have Bn:=(aB.1 hl).1;refine zE<|zD 2<|jn λb2=>jn λb3=>jd 8 [0]<|zxp [zI 5,zI 1,zI 7] (λhs=>qM (by omega))<|jd 17 [1,0]<|zW ((ws.length:Int)-1)<|zxp [zI (s:Int),zI 0,zI ((ws.length:Int)-1)] (λhs=>qM (by omega))<|jd 80 [0,0,0,0,0,0]<|jne GF (ye 0 0 0 0)<|zD 3<|js 82 (!(0==0&&(0==0&&true))) (λh1=>?_) (λh1=>?_)
 ·
  exact absurd h1 (by decide)
 refine jd 5 [1]<|jc (vs:=[.agg ⟨[.slice fP ws.length eL]⟩]) [] (MN (mY) hO) ?_;rintro _ _ ⟨rm,F,LM,Z,rfl,rfl,hmM,hkM,hMM⟩;refine jg 0 [.l LM,.l Z]<|jd 10 [2,3,2]<|zxr (λhs=>QN)<|zD 1<|zxo 7 λtT=>jc (vs:=[.agg ⟨[.slice fP ws.length eL]⟩,.agg ⟨[zI 5,zI (s:Int),zI 0,zI c3,zI c4,zI 0,zI 0]⟩,(.map (some rm))]) [0,1] (asu (s:=s) mY hO hl hmM hkM hMM) ?_;rintro _ _ ⟨F2,Ly,Z2,rfl,rfl,yx,gV,hM2⟩;refine jg 0 [.l Ly,.l Z2]<|eE tT [[2]]<|zD 7<|js 94 (!decide ((Ec l c3 c4)=0)) (λh3=>?_) (λh3=>?_)
 ·
  replace h3:=ah (by simpa using h3);refine zD 8<|zX _ (.inl ⟨by first|assumption| (simp_all;done),rfl,rfl⟩)
 replace h3:=ai (by simpa using h3);refine zD 9<|zR _ [] [0,1] _ (.inr ⟨by first|assumption| (simp_all;done),rm,F2,Ly,Z2,rfl,rfl,yx,gV,hM2 (by first|assumption| (simp_all;done))⟩)
def aJK{v:Value}{S:List (List ax)}{s:Nat}{l:List ax}{c3 c4:Int}(hS:bH ro v S)(hO:cg S)(hl:S[s]?=some l):eW zT 170 [.agg ⟨[v]⟩,.agg ⟨[zI 6,zI (s:Int),zI 0,zI c3,zI c4,zI 0,zI 0]⟩] ro [] (λr Y=>(((((Ba l c3 c4)):Int)≠0/\r= .tuple ⟨[.map none,zI ((Ba l c3 c4))]⟩/\Y=[])\/((((Ba l c3 c4)):Int)=0/\∃rm F LM Z,r= .tuple ⟨[.map (some rm),zI 0]⟩/\Y=LM++Z/\iq rm mh F LM/\F.map (·.1)=aI S/\MV Z F (gU ([(⟨s,c3,c4⟩,[])]))))):=by
 have mM:=hO.two;have mY:=hS;obtain⟨ws,ht,dO⟩:=hS;obtain⟨fP,we,vZ,eL,rfl,v9,nE,nD⟩:=ht;have Ah:=dO.len;have Bn:=(aB.1 hl).1;refine zE<|zD 2<|jn λb2=>jn λb3=>jd 8 [0]<|zxp [zI 6,zI 1,zI 7] (λhs=>qM (by omega))<|jd 17 [1,0]<|zW ((ws.length:Int)-1)<|zxp [zI (s:Int),zI 0,zI ((ws.length:Int)-1)] (λhs=>qM (by omega))<|jd 80 [0,0,0,0,0,0]<|jne GF (ye 0 0 0 0)<|zD 3<|js 82 (!(0==0&&(0==0&&true))) (λh1=>?_) (λh1=>?_)
 ·
  exact absurd h1 (by decide)
 refine jd 5 [1]<|jc (vs:=[.agg ⟨[.slice fP ws.length eL]⟩]) [] (MN (mY) hO) ?_;rintro _ _ ⟨rm,F,LM,Z,rfl,rfl,hmM,hkM,hMM⟩;refine jg 0 [.l LM,.l Z]<|jd 10 [2,3,2]<|zxr (λhs=>QN)<|zD 1<|zxo 7 λtT=>jc (vs:=[.agg ⟨[.slice fP ws.length eL]⟩,.agg ⟨[zI 6,zI (s:Int),zI 0,zI c3,zI c4,zI 0,zI 0]⟩,(.map (some rm))]) [0,1] (ayF (s:=s) mY hO hl hmM hkM hMM) ?_;rintro _ _ ⟨F2,Ly,Z2,rfl,rfl,yx,gV,hM2⟩;refine jg 0 [.l Ly,.l Z2]<|eE tT [[2]]<|zD 7<|js 94 (!decide ((Ba l c3 c4)=0)) (λh3=>?_) (λh3=>?_)
 ·
  replace h3:=ah (by simpa using h3);refine zD 8<|zX _ (.inl ⟨by first|assumption| (simp_all;done),rfl,rfl⟩)
 replace h3:=ai (by simpa using h3);refine zD 9<|zR _ [] [0,1] _ (.inr ⟨by first|assumption| (simp_all;done),rm,F2,Ly,Z2,rfl,rfl,yx,gV,hM2 (by first|assumption| (simp_all;done))⟩)
def aJJ{v:Value}{S:List (List ax)}{s:Nat}{l:List ax}{lo:List ax}{c3 c4:Int}(hS:bH ro v S)(hO:cg S)(hl:S[s]?=some l) (qL:S[o]?=some lo) (eo:s≠o):eW zT 170 [.agg ⟨[v]⟩,.agg ⟨[zI 7,zI (s:Int),zI (o:Int),zI c3,zI c4,zI c5,zI c6]⟩] ro [] (λr Y=>(((((oR l lo (bM (cz c3 c4) l 0) (bM (cz c5 c6) l 0))):Int)≠0/\r= .tuple ⟨[.map none,zI ((oR l lo (bM (cz c3 c4) l 0) (bM (cz c5 c6) l 0)))]⟩/\Y=[])\/((((oR l lo (bM (cz c3 c4) l 0) (bM (cz c5 c6) l 0))):Int)=0/\∃rm F LM Z,r= .tuple ⟨[.map (some rm),zI 0]⟩/\Y=LM++Z/\iq rm mh F LM/\F.map (·.1)=aI S/\MV Z F (gU (rU (s:Int) (o:Int) (Fv l (bM (cz c3 c4) l 0) (bM (cz c5 c6) l 0))))))):=by
 have mM:=hO.two;have mY:=hS;obtain⟨ws,ht,dO⟩:=hS;obtain⟨fP,we,vZ,eL,rfl,v9,nE,nD⟩:=ht;have Ah:=dO.len;have Bn:=(aB.1 hl).1;have hso:=(aB.1 qL).1;refine zE<|zD 2<|jn λb2=>jn λb3=>jd 8 [0]<|zxp [zI 7,zI 1,zI 7] (λhs=>qM (by omega))<|jd 17 [1,0]<|zW ((ws.length:Int)-1)<|zxp [zI (s:Int),zI 0,zI ((ws.length:Int)-1)] (λhs=>qM (by omega))<|jd 32 [0,0,0,0,0]<|zW ((ws.length:Int)-1)<|zxp [zI (o:Int),zI 0,zI ((ws.length:Int)-1)] (λhs=>qM (by omega))<|jd 17 [0,0]<|zJ 55 ((o:Int)=(s:Int)) (λh1=>?_) λh1=>?_
 ·
  exfalso;omega
 refine jd 38 [1]<|jc (vs:=[.agg ⟨[.slice fP ws.length eL]⟩]) [] (MN (mY) hO) ?_;rintro _ _ ⟨rm,F,LM,Z,rfl,rfl,hmM,hkM,hMM⟩;refine jg 0 [.l LM,.l Z]<|jd 10 [2,3,2]<|zxr (λhs=>QN)<|zD 1<|zxo 7 λtT=>jc (vs:=[.agg ⟨[.slice fP ws.length eL]⟩,.agg ⟨[zI 7,zI (s:Int),zI (o:Int),zI c3,zI c4,zI c5,zI c6]⟩,(.map (some rm))]) [0,1] (asv (s:=s) (o:=o) mY hO hl hmM hkM hMM qL) ?_;rintro _ _ ⟨F2,Ly,Z2,rfl,rfl,yx,gV,hM2⟩;refine jg 0 [.l Ly,.l Z2]<|eE tT [[2]]<|zD 7<|js 94 (!decide ((oR l lo (bM (cz c3 c4) l 0) (bM (cz c5 c6) l 0))=0)) (λh3=>?_) (λh3=>?_)
 ·
  replace h3:=ah (by simpa using h3);refine zD 8<|zX _ (.inl ⟨by first|assumption| (simp_all;done),rfl,rfl⟩)
 replace h3:=ai (by simpa using h3);refine zD 9<|zR _ [] [0,1] _ (.inr ⟨by first|assumption| (simp_all;done),rm,F2,Ly,Z2,rfl,rfl,yx,gV,hM2 (by first|assumption| (simp_all;done))⟩)
def aJH{v:Value}{S:List (List ax)}{s:Nat}{l:List ax}(hS:bH ro v S)(hO:cg S)(hl:S[s]?=some l):eW zT 170 [.agg ⟨[v]⟩,.agg ⟨[zI 4,zI (s:Int),zI (s:Int),zI 0,zI 0,zI 0,zI 0]⟩] ro [] (λr Y=>r= .tuple ⟨[.map none,zI 4]⟩/\Y=[]):=by
 have mM:=hO.two;obtain⟨ws,ht,dO⟩:=hS;obtain⟨fP,we,vZ,eL,rfl,v9,nE,nD⟩:=ht;have Ah:=dO.len;have Bn:=(aB.1 hl).1;refine zE<|zD 2<|jn λb2=>jn λb3=>jd 8 [0]<|zxp [zI 4,zI 1,zI 7] (λhs=>qM (by omega))<|jd 17 [1,0]<|zW ((ws.length:Int)-1)<|zxp [zI (s:Int),zI 0,zI ((ws.length:Int)-1)] (λhs=>qM (by omega))<|jd 32 [0,0,0,0]<|zW ((ws.length:Int)-1)<|zxp [zI (s:Int),zI 0,zI ((ws.length:Int)-1)] (λhs=>qM (by omega))<|jd 17 [0,0]<|zJ 55 ((s:Int)=(s:Int)) (λh1=>?_) λh1=>?_
 ·
  refine zD 7<|zX _ ⟨rfl,rfl⟩
 exact absurd rfl (by assumption)
def aJG{v:Value}{S:List (List ax)}{s:Nat}{l:List ax}{c3 c4:Int}(hS:bH ro v S)(hO:cg S)(hl:S[s]?=some l):eW zT 170 [.agg ⟨[v]⟩,.agg ⟨[zI 7,zI (s:Int),zI (s:Int),zI c3,zI c4,zI c5,zI c6]⟩] ro [] (λr Y=>r= .tuple ⟨[.map none,zI 4]⟩/\Y=[]):=by
 have mM:=hO.two;obtain⟨ws,ht,dO⟩:=hS;obtain⟨fP,we,vZ,eL,rfl,v9,nE,nD⟩:=ht;have Ah:=dO.len;have Bn:=(aB.1 hl).1;refine zE<|zD 2<|jn λb2=>jn λb3=>jd 8 [0]<|zxp [zI 7,zI 1,zI 7] (λhs=>qM (by omega))<|jd 17 [1,0]<|zW ((ws.length:Int)-1)<|zxp [zI (s:Int),zI 0,zI ((ws.length:Int)-1)] (λhs=>qM (by omega))<|jd 32 [0,0,0,0,0]<|zW ((ws.length:Int)-1)<|zxp [zI (s:Int),zI 0,zI ((ws.length:Int)-1)] (λhs=>qM (by omega))<|jd 17 [0,0]<|zJ 55 ((s:Int)=(s:Int)) (λh1=>?_) λh1=>?_
 ·
  refine zD 7<|zX _ ⟨rfl,rfl⟩
 exact absurd rfl (by assumption)
structure nn(S:List (List ax))(c:aP):Prop where
 k:1<=c.k/\c.k<=7
 st:0<=c.st/\c.st <S.length
 ot:(c.k=4\/c.k=7)->0<=c.ot/\c.ot <S.length
 no:¬(c.k=4\/c.k=7)->c.ot=0
 fr:c.k <5->c.fn=0/\c.fl=0
 to:c.k≠7->c.tn=0/\c.tl=0
def zn(S:List (List ax))(i:Int):List ax:=S[i.toNat]?.getD []
def iG(S:List (List ax))(c:aP):Int:=
 if (c.k=4\/c.k=7)/\c.ot=c.st then 4 else if c.k=4 then r5 (zn S c.st) (zn S c.ot) else if c.k=5 then Ec (zn S c.st) c.fn c.fl else if c.k=6 then Ba (zn S c.st) c.fn c.fl
 else if c.k=7 then oR (zn S c.st) (zn S c.ot) (bM (cz c.fn c.fl) (zn S c.st) 0) (bM (cz c.tn c.tl) (zn S c.st) 0) else 0
def yf(S:List (List ax))(c:aP):List (ar×List ar):=
 if c.k=1 then Me c.st (zn S c.st) else if c.k=2 then FR c.st (zn S c.st) else if c.k=3 then Ef c.st (zn S c.st) else if c.k=4 then Ii c.st c.ot (zn S c.st) (gP (zn S c.ot))
 else if c.k=5 then La c.st (zn S c.st) c.fn c.fl else if c.k=6 then [(⟨c.st,c.fn,c.fl⟩,[])] else rU c.st c.ot (Fv (zn S c.st) (bM (cz c.fn c.fl) (zn S c.st) 0) (bM (cz c.tn c.tl) (zn S c.st) 0))
def fY(S:List (List ax))(c:aP)(x:ar):List ar:=gU (yf S c) x
theorem uo{S:List (List ax)}{l:List ax}(h:S[i]?=some l):zn S (i:Int)=l:=by grind [zn,LI]
def aUT{v:Value}{S:List (List ax)}{c:aP}(hc:nn S c)(hS:bH ro v S)(hO:cg S):eW zT 170 [.agg ⟨[v]⟩,.agg ⟨mO c⟩] ro [] (λr Y=>
 (iG S c≠0/\r= .tuple ⟨[.map none,zI (iG S c)]⟩/\Y=[])\/(iG S c=0/\∃rm F LM Z,r= .tuple ⟨[.map (some rm),zI 0]⟩/\Y=LM++Z/\iq rm mh F LM/\F.map (·.1)=aI S/\MV Z F (fY S c))):=by
 obtain⟨k,st,ot,fn,fl,tn,tl⟩:=c;obtain⟨hk,dr,hot,wP,SY,SK⟩:=hc;dsimp only at hk dr hot wP SY SK;obtain⟨s,rfl⟩:=Int.eq_ofNat_of_zero_le dr.1;obtain⟨l,hl⟩:∃l,S[s]?=some l:=⟨_,List.getElem?_eq_getElem (by omega)⟩;have e1:=uo hl;have my:k=1\/k=2\/k=3\/k=4\/k=5\/k=6\/k=7:=by omega
 have fin:∀ {a:List Value} {e e':Int} {u u':List (ar×List ar)},e=e'->u=u'->eW zT 170 a ro [] (λr Y=>((e≠0/\r= .tuple ⟨[.map none,zI e]⟩/\Y=[])\/(e=0/\∃rm F LM Z,r= .tuple ⟨[.map (some rm),zI 0]⟩/\Y=LM++Z/\iq rm mh F LM/\F.map (·.1)=aI S/\MV Z F (gU u))))->
  eW zT 170 a ro [] (λr Y=>((e'≠0/\r= .tuple ⟨[.map none,zI e']⟩/\Y=[])\/(e'=0/\∃rm F LM Z,r= .tuple ⟨[.map (some rm),zI 0]⟩/\Y=LM++Z/\iq rm mh F LM/\F.map (·.1)=aI S/\MV Z F (gU u')))):=λh1 h2 h=>by subst h1;subst h2;exact h
 rcases my with rfl|rfl|rfl|rfl|rfl|rfl|rfl
 .obtain rfl:=wP (by decide);obtain⟨rfl,rfl⟩:=SY (by decide);obtain⟨rfl,rfl⟩:=SK (by decide);exact fin (e:=0) (u:=Me (s:Int) l) (by simp[iG]) (by simp[yf,e1]) (aJP hS hO hl)
 .obtain rfl:=wP (by decide);obtain⟨rfl,rfl⟩:=SY (by decide);obtain⟨rfl,rfl⟩:=SK (by decide);exact fin (e:=0) (u:=FR (s:Int) l) (by simp[iG]) (by simp[yf,e1]) (aJO hS hO hl)
 .obtain rfl:=wP (by decide);obtain⟨rfl,rfl⟩:=SY (by decide);obtain⟨rfl,rfl⟩:=SK (by decide);exact fin (e:=0) (u:=Ef (s:Int) l) (by simp[iG]) (by simp[yf,e1]) (aJN hS hO hl)
 .obtain⟨rfl,rfl⟩:=SY (by decide);obtain⟨rfl,rfl⟩:=SK (by decide);have ho:=hot (.inl rfl);obtain⟨o,rfl⟩:=dM ho.1;obtain⟨lo,qL⟩:∃l,S[o]?=some l:=⟨_,af (by omega)⟩;have e2:=uo qL;by_cases eo:s=o
  .subst eo;have he:iG S ⟨4,(s:Int),(s:Int),0,0,0,0⟩=4:=by simp[iG]
   refine(aJH hS hO hl).mono λr Y h=> .inl ⟨by rw[he];decide,by rw[he];exact h.1,h.2⟩
  exact fin (by simp[iG,e1,e2,show ¬((o:Int)=s) by omega]) (by simp[yf,e1,e2]) (aJM hS hO hl qL eo)
 .obtain rfl:=wP (by decide);obtain⟨rfl,rfl⟩:=SK (by decide);exact fin (by simp[iG,e1]) (by simp[yf,e1]) (aJL hS hO hl)
 .obtain rfl:=wP (by decide);obtain⟨rfl,rfl⟩:=SK (by decide);exact fin (by simp[iG,e1]) (by simp[yf]) (aJK hS hO hl)
 have ho:=hot (.inr rfl);obtain⟨o,rfl⟩:=dM ho.1;obtain⟨lo,qL⟩:∃l,S[o]?=some l:=⟨_,af (by omega)⟩;have e2:=uo qL;by_cases eo:s=o
 .subst eo;have he:iG S ⟨7,(s:Int),(s:Int),fn,fl,tn,tl⟩=4:=by simp[iG]
  refine(aJG hS hO hl).mono λr Y h=> .inl ⟨by rw[he];decide,by rw[he];exact h.1,h.2⟩
 exact fin (by simp[iG,e1,e2,show ¬((o:Int)=s) by omega]) (by simp[yf,e1,e2]) (aJJ hS hO hl qL eo)
def ajR(n:Nat):Int:=if n=0 then 0 else if n <2 then 1 else if n <4 then 2 else if n <8 then 3 else 4
def aJD:∀ {n:Nat},n<=12->iz zT 194 [zU (n:Int)] ro (zI (ajR n))
 |0,_=>by refine dD bE [] [] c9 (zD 35 (ja 0 (by decide) (zD 3 ?_)));exact bY q0 (zI 0) [] [] [] (Sub.refl _) ⟨_,_,rfl,rfl,rfl,rfl⟩
 |1,_=>by refine dD bE [] [] c9 (zD 35 (ja 1 (by decide) (zD 3 ?_)));exact bY q0 (zI 1) [] [] [] (Sub.refl _) ⟨_,_,rfl,rfl,rfl,rfl⟩
 |2,_=>by refine dD bE [] [] c9 (zD 35 (ja 2 (by decide) (zD 3 ?_)));exact bY q0 (zI 2) [] [] [] (Sub.refl _) ⟨_,_,rfl,rfl,rfl,rfl⟩
 |3,_=>by refine dD bE [] [] c9 (zD 35 (ja 2 (by decide) (zD 3 ?_)));exact bY q0 (zI 2) [] [] [] (Sub.refl _) ⟨_,_,rfl,rfl,rfl,rfl⟩
 |4,_=>by refine dD bE [] [] c9 (zD 35 (ja 3 (by decide) (zD 3 ?_)));exact bY q0 (zI 3) [] [] [] (Sub.refl _) ⟨_,_,rfl,rfl,rfl,rfl⟩
 |5,_=>by refine dD bE [] [] c9 (zD 35 (ja 3 (by decide) (zD 3 ?_)));exact bY q0 (zI 3) [] [] [] (Sub.refl _) ⟨_,_,rfl,rfl,rfl,rfl⟩
 |6,_=>by refine dD bE [] [] c9 (zD 35 (ja 3 (by decide) (zD 3 ?_)));exact bY q0 (zI 3) [] [] [] (Sub.refl _) ⟨_,_,rfl,rfl,rfl,rfl⟩
 |7,_=>by refine dD bE [] [] c9 (zD 35 (ja 3 (by decide) (zD 3 ?_)));exact bY q0 (zI 3) [] [] [] (Sub.refl _) ⟨_,_,rfl,rfl,rfl,rfl⟩
 |8,_=>by refine dD bE [] [] c9 (zD 35 (ja 4 (by decide) (zD 3 ?_)));exact bY q0 (zI 4) [] [] [] (Sub.refl _) ⟨_,_,rfl,rfl,rfl,rfl⟩
 |9,_=>by refine dD bE [] [] c9 (zD 35 (ja 4 (by decide) (zD 3 ?_)));exact bY q0 (zI 4) [] [] [] (Sub.refl _) ⟨_,_,rfl,rfl,rfl,rfl⟩
 |10,_=>by refine dD bE [] [] c9 (zD 35 (ja 4 (by decide) (zD 3 ?_)));exact bY q0 (zI 4) [] [] [] (Sub.refl _) ⟨_,_,rfl,rfl,rfl,rfl⟩
 |11,_=>by refine dD bE [] [] c9 (zD 35 (ja 4 (by decide) (zD 3 ?_)));exact bY q0 (zI 4) [] [] [] (Sub.refl _) ⟨_,_,rfl,rfl,rfl,rfl⟩
 |12,_=>by refine dD bE [] [] c9 (zD 35 (ja 4 (by decide) (zD 3 ?_)));exact bY q0 (zI 4) [] [] [] (Sub.refl _) ⟨_,_,rfl,rfl,rfl,rfl⟩
 |n+13,h=>absurd h (by omega)
theorem amg{n:Nat}(h:n<=1000):Value.int .u64 (IntKind.u64.wrap (n:Int))= zU (n:Int):=by
 rw[Ax _ rfl _ (by simp) (by grind [IntKind.bits])]
def GP(lt:α->α->Bool):Nat->List α->List α
 |0,ys=>ys
 |j+1,ys=>match ys[j+1]?,ys[j]? with
  |some x,some y=>bif lt x y then GP lt j ((ys.set (j+1) y).set j x) else ys
  |_,_=>ys
def sR(lt:α->α->Bool):Nat->Nat->List α->List α
 |0,_,ys=>ys
 |n+1,i,ys=>sR lt n (i+1) (GP lt i ys)
def dh(lt:α->α->Bool)(xs:List α):List α:=sR lt (xs.length-1) 1 xs
theorem Ub{lt:α->α->Bool}{ys:List α}{j:Int}(h:¬j>0):GP lt j.toNat ys=ys:=by rw[show j.toNat=0 by omega];rfl
theorem Uc{lt:α->α->Bool}{ys:List α}{j:Int}{x y:α}(hj:j>0)(hx:ys[j.toNat]?=some x) (hy:ys[(j-1).toNat]?=some y) (h:lt x y=false):GP lt j.toNat ys=ys:=by
 have e:j.toNat=(j-1).toNat+1:=by omega
 rw[e] at hx ⊢;simp only[GP,hx,hy,h,fJ]
theorem Wl{lt:α->α->Bool}{ys:List α}{j:Int}{x y x' y':α}(hj:j>0)(hx:ys[j.toNat]?=some x) (hy:ys[(j-1).toNat]?=some y) (mL:ys[j.toNat]?=some x') (R2:ys[(j-1).toNat]?=some y') (h:lt x y=true):GP lt j.toNat ys=GP lt (j-1).toNat ((ys.set j.toNat y').set (j-1).toNat x'):=by
 rw[hx] at mL;rw[hy] at R2;cases mL;cases R2;have e:j.toNat=(j-1).toNat+1:=by omega
 rw[e] at hx ⊢;rw[GP];simp only[hx,hy,h,cH]
def Mk{lt:α->α->Bool}{xs ys:List α}{n:Nat}{i:Int}(h:dh lt xs=sR lt (n-i.toNat) i.toNat ys)(hi:0<=i/\i <n):dh lt xs=sR lt (n-(i+1).toNat) (i+1).toNat (GP lt i.toNat ys):=by
 rw[h,show n-i.toNat=(n-(i+1).toNat)+1 by omega,show (i+1).toNat=i.toNat+1 by omega];rfl
def OZ{lt:α->α->Bool}{xs ys:List α}{n:Nat}{i:Int}(h:dh lt xs=sR lt (n-i.toNat) i.toNat ys)(hi:¬i <n):ys=dh lt xs:=by
 rw[h,show n-i.toNat=0 by omega];rfl
def Ib(x y:ax):Bool:=decide (NP x y <0)
def XG(v:Value)(xs:List ax)(Y:Cells):Prop:=∃ys,(ys=dh Ib xs/\ys.Perm xs)/\bJ v 2 39 cu ys Y
def aJE{n:Nat}(h:n<=12):iz zT 144 [zU (n:Int)] ro (zI (ajR n)):=by
 refine zE<|zD 10<|zxp [zU (n:Int)] (λhs=>(aJD h))<|zD 3<|zX _ ⟨rfl,rfl⟩
def biC{v:Value}{xs:List ax}{L:Cells}(ho:bJ v 2 39 cu xs L)(hN:xs.length<=12):eW zT 301 [v,zI 0,zI (xs.length:Int),.func (.func 182) ⟨[]⟩ ⟨[]⟩] ro L (λr Y=>XG v xs Y):=by
 refine zC [.l L]<|zD 7<|iE [1,0,0] [] (λ(zz:Int×(List ax)×Cells)=>[(0,v),(1,zI 0),(2,zI (xs.length:Int)),(3,.func (.func 182) ⟨[]⟩ ⟨[]⟩),(8,zI zz.1)]) (λzz=>[.l zz.2.2]) (λzz=>(1<=zz.1)/\bJ v 2 39 cu zz.2.1 zz.2.2/\zz.2.1.Perm xs/\dh Ib xs=sR Ib (xs.length-zz.1.toNat) zz.1.toNat zz.2.1) (λzz=>((xs.length:Int)-zz.1).toNat) (⟨1,xs,L⟩) ⟨by dsimp only;omega,ho,.refl _,rfl⟩ [0] ?_;rintro⟨i,ys,L⟩ hI K1 cX rest;dsimp only at hI;have hyl:=hI.2.2.1.length_eq;refine zD 7<|zJ 14 (i <(xs.length:Int)) (λh1=>?_) λh1=>?_
 ·
  refine zD 10<|iE [1,0,0,1,0,0,1,0,0] [K1] (λ(zz:Int×(List ax)×Cells)=>[(0,v),(1,zI 0),(2,zI (xs.length:Int)),(3,.func (.func 182) ⟨[]⟩ ⟨[]⟩),(8,zI i),(9,zI zz.1)]) (λzz=>[.l zz.2.2]) (λzz=>(0<=zz.1/\zz.1<=i)/\bJ v 2 39 cu zz.2.1 zz.2.2/\zz.2.1.Perm xs/\dh Ib xs=sR Ib (xs.length-(i+1).toNat) (i+1).toNat (GP Ib zz.1.toNat zz.2.1)) (λzz=>zz.1.toNat) (⟨i,ys,L⟩) ⟨by dsimp only;omega,hI.2.1,hI.2.2.1,Mk hI.2.2.2 (by omega)⟩ [0] ?_;rintro⟨j,ys,L⟩ hJ K2 mb rest;dsimp only at hJ;have hyl:=hJ.2.2.1.length_eq;refine zD 7<|js 3 (decide (j>0)) (λh2=>?_) (λh2=>?_)
  ·
   have n6:=h2;replace n6:=ai n6;refine zD 3 ?_;obtain⟨Fq,nA⟩:=zG ys (j.toNat) (by first|omega| (simp only[aO];omega));refine zH j 2 hJ.2.1 nA λb25 aIr=>zx 0 [0] L (λs _ hZ=>lS hJ.2.1 aIr hZ nA)<|zD 2<|zW (j-1) ?_;obtain⟨Fp,s7⟩:=zG ys ((j-1).toNat) (by first|omega| (simp only[aO];omega));refine zH (j-1) 2 hJ.2.1 s7 λb30 arb=>zx 0 [0] L (λs _ hZ=>lS hJ.2.1 arb hZ s7)<|zxo 14 λwA=>zxp [.agg ⟨[zI Fq.n,zI Fq.l]⟩,.agg ⟨[zI Fp.n,zI Fp.l]⟩] (λhs=>(asz (x:=Fq) (y:=Fp)))<|eP wA [0]<|zD 3<|zJ 34 ((NP Fq Fp) <0) (λh4=>?_) λh4=>?_
   ·
    refine zD 9<|zW (j-1)<|zD 2<|zW (j-1) ?_;obtain⟨xI,sC⟩:=zG ys ((j-1).toNat) (by first|omega| (simp only[List.length_set];omega));refine zH (j-1) 2 hJ.2.1 sC λb45 aeP=>zx 0 [0] L (λs _ hZ=>lS hJ.2.1 aeP hZ sC)<|zD 2 ?_;obtain⟨x49,Ws⟩:=zG ys (j.toNat) (by first|omega| (simp only[List.length_set];omega));refine zH j 2 hJ.2.1 Ws λb49 aIq=>zx 0 [0] L (λs _ hZ=>lS hJ.2.1 aIq hZ Ws) ?_;obtain⟨gR,qB⟩:=zG ys (j.toNat) (by first|omega| (simp only[List.length_set];omega));refine zH j 2 hJ.2.1 qB λb51 aIp=>zxo 15 λuD=>jso 0 0 [zI xI.n,zI xI.l] (⟨xI.n,xI.l⟩:ax) hJ.2.1 aIp qB rfl rfl (Nat.le_of_ble_eq_true rfl) λL6 ho7=>eE uD [] ?_;obtain⟨fD,sx⟩:=zG ((ys.set j.toNat (⟨xI.n,xI.l⟩:ax))) ((j-1).toNat) (by first|omega| (simp only[List.length_set];omega));refine zH (j-1) 2 ho7 sx λb52 ara=>zxo 17 λCU=>jso 0 0 [zI x49.n,zI x49.l] (⟨x49.n,x49.l⟩:ax) ho7 ara sx rfl rfl (Nat.le_of_ble_eq_true rfl) λL9 lK=>kV CU<|zD 3<|zW (j-1)<|zD 2<|zF mb (⟨(j-1),((ys.set j.toNat (⟨xI.n,xI.l⟩:ax)).set ((j-1).toNat) (⟨x49.n,x49.l⟩:ax)),L9⟩) ⟨lK,(EL Ws sC).trans hJ.2.2.1,by dsimp only;rw[hJ.2.2.2,Wl (by omega) nA s7 Ws sC (decide_eq_true (by assumption))]⟩ [0]
   refine zD 4<|zW (i+1)<|zD 2<|zF cX (⟨(i+1),ys,L⟩) ⟨hJ.2.1,hJ.2.2.1,by dsimp only;rw[hJ.2.2.2,Uc (by omega) nA s7 (decide_eq_false (by assumption))]⟩ [0]
  have n6:=h2;replace n6:=of_decide_eq_false n6;refine zD 18<|zW (i+1)<|zD 2<|zF cX (⟨(i+1),ys,L⟩) ⟨hJ.2.1,hJ.2.2.1,by dsimp only;rw[hJ.2.2.2,Ub (by omega)]⟩ [0]
 refine zD 2<|zR (.tuple ⟨[]⟩) [] [0] L ⟨ys,⟨OZ hI.2.2.2 (by omega),hI.2.2.1⟩,hI.2.1⟩
def biA{v:Value}{xs:List ax}{L:Cells}(ho:bJ v 2 39 cu xs L)(hN:xs.length<=12):eW zT 267 [v,zI 0,zI (xs.length:Int),zI lim,.func (.func 182) ⟨[]⟩ ⟨[]⟩] ro L (λr Y=>XG v xs Y):=by
 refine zC [.l L]<|zD 9<|iE [1,1,0,0] [] (λ(zz:Nat)=>[(0,v),(1,zI 0),(2,zI (xs.length:Int)),(3,zI lim),(4,.func (.func 182) ⟨[]⟩ ⟨[]⟩),(10,.bool true),(11,.bool true)]) (λzz=>[.l L]) (λzz=>True) (λzz=>zz) 0 bW [0] ?_;rintro z hI K1 cX rest;refine zD 5<|zW ((xs.length:Int)-0)<|zD 8<|zJ 25 (((xs.length:Int)-0)<=12) (λh1=>?_) λh1=>?_
 ·
  refine zD 7<|jc (vs:=[v,zI 0,zI (xs.length:Int),.func (.func 182) ⟨[]⟩ ⟨[]⟩]) [0] (biC ho (by omega)) ?_;rintro bbs Y30 ⟨aDo,aqf,aaO⟩;refine zD 2<|zR (.tuple ⟨[]⟩) [] [0] _ ⟨_,aqf,aaO⟩
 exfalso;omega
def ae9{v:Value}{xs:List ax}{L:Cells}(ho:bJ v 2 39 cu xs L)(hN:xs.length<=12):eW zT 225 [v,.func (.func 182) ⟨[]⟩ ⟨[]⟩] ro L (λr Y=>XG v xs Y):=by
 refine zC [.l L]<|zD 3<|jol ho<|zD 6<|je (zU (xs.length:Int)) (amg (by omega))<|zxp [zU (xs.length:Int)] (λhs=>(aJE (by omega)))<|zD 1<|jc (vs:=[v,zI 0,zI (xs.length:Int),zI (ajR xs.length),.func (.func 182) ⟨[]⟩ ⟨[]⟩]) [0] (biA ho (by omega)) ?_;rintro bbt Y13 ⟨aZy,aaJ,NC⟩;refine zD 1<|zR (.tuple ⟨[]⟩) [] [0] _ ⟨_,aaJ,NC⟩
def azi(x y:ar):Int:=orL [tN x.h y.h,NP ⟨x.n,x.l⟩ ⟨y.n,y.l⟩]
def pP(x y:ar):Bool:=decide (azi x y <0)
def Ot(v:Value)(xs:List ar)(Y:Cells):Prop:=∃ys,(ys=dh pP xs/\ys.Perm xs)/\bJ v 3 41 bL ys Y
def aUU{x y:ar}:iz zT 136 [.agg ⟨[zI x.h,zI x.n,zI x.l]⟩,.agg ⟨[zI y.h,zI y.n,zI y.l]⟩] ro (zI (azi x y)):=by
 refine zE<|zD 2<|jn λb2=>jn λb3=>jd 12 [1,0,1,0]<|zxp [zI x.h,zI y.h] (λhs=>ayH)<|zxp [.agg ⟨[zI x.n,zI x.l]⟩,.agg ⟨[zI y.n,zI y.l]⟩] (λhs=>(asz (x:=⟨x.n,x.l⟩) (y:=⟨y.n,y.l⟩)))<|zxo 10 λtT=>jn λxH=>eP tT [1,2]<|jp (vs:=[.slice (some ⟨xH,0,none⟩) 2 2]) [0] [(xH,.cells ⟨([(tN x.h y.h),(NP ⟨x.n,x.l⟩ ⟨y.n,y.l⟩)].map eI).flatten⟩ 3 (0,0))] (λcK hs hZ=>gOr (fK [(tN x.h y.h),(NP ⟨x.n,x.l⟩ ⟨y.n,y.l⟩)] hZ.head (by intro p hp;rfl)) (by first|omega| (simp only[aO,zM];omega))) ?_;refine zD 3<|zX _ ⟨rfl,rfl⟩
def aUP{v:Value}{xs:List ar}{L:Cells}(ho:bJ v 3 41 bL xs L)(hN:xs.length<=12):eW zT 231 [v,zI 0,zI (xs.length:Int),.func (.func 136) ⟨[]⟩ ⟨[]⟩] ro L (λr Y=>Ot v xs Y):=by
 refine zC [.l L]<|zD 7<|iE [1,0,0] [] (λ(zz:Int×(List ar)×Cells)=>[(0,v),(1,zI 0),(2,zI (xs.length:Int)),(3,.func (.func 136) ⟨[]⟩ ⟨[]⟩),(8,zI zz.1)]) (λzz=>[.l zz.2.2]) (λzz=>(1<=zz.1)/\bJ v 3 41 bL zz.2.1 zz.2.2/\zz.2.1.Perm xs/\dh pP xs=sR pP (xs.length-zz.1.toNat) zz.1.toNat zz.2.1) (λzz=>((xs.length:Int)-zz.1).toNat) (⟨1,xs,L⟩) ⟨by dsimp only;omega,ho,.refl _,rfl⟩ [0] ?_;rintro⟨i,ys,L⟩ hI K1 cX rest;dsimp only at hI;have hyl:=hI.2.2.1.length_eq;refine zD 7<|zJ 14 (i <(xs.length:Int)) (λh1=>?_) λh1=>?_
 ·
  refine zD 10<|iE [1,0,0,1,0,0,1,0,0] [K1] (λ(zz:Int×(List ar)×Cells)=>[(0,v),(1,zI 0),(2,zI (xs.length:Int)),(3,.func (.func 136) ⟨[]⟩ ⟨[]⟩),(8,zI i),(9,zI zz.1)]) (λzz=>[.l zz.2.2]) (λzz=>(0<=zz.1/\zz.1<=i)/\bJ v 3 41 bL zz.2.1 zz.2.2/\zz.2.1.Perm xs/\dh pP xs=sR pP (xs.length-(i+1).toNat) (i+1).toNat (GP pP zz.1.toNat zz.2.1)) (λzz=>zz.1.toNat) (⟨i,ys,L⟩) ⟨by dsimp only;omega,hI.2.1,hI.2.2.1,Mk hI.2.2.2 (by omega)⟩ [0] ?_;rintro⟨j,ys,L⟩ hJ K2 mb rest;dsimp only at hJ;have hyl:=hJ.2.2.1.length_eq;refine zD 7<|js 3 (decide (j>0)) (λh2=>?_) (λh2=>?_)
  ·
   have n6:=h2;replace n6:=ai n6;refine zD 3 ?_;obtain⟨Fq,nA⟩:=zG ys (j.toNat) (by first|omega| (simp only[aO];omega));refine zH j 3 hJ.2.1 nA λb25 aIr=>zx 0 [0] L (λs _ hZ=>lS hJ.2.1 aIr hZ nA)<|zD 2<|zW (j-1) ?_;obtain⟨Fp,s7⟩:=zG ys ((j-1).toNat) (by first|omega| (simp only[aO];omega));refine zH (j-1) 3 hJ.2.1 s7 λb30 arb=>zx 0 [0] L (λs _ hZ=>lS hJ.2.1 arb hZ s7)<|zxo 14 λwA=>zxp [.agg ⟨[zI Fq.h,zI Fq.n,zI Fq.l]⟩,.agg ⟨[zI Fp.h,zI Fp.n,zI Fp.l]⟩] (λhs=>(aUU (x:=Fq) (y:=Fp)))<|eP wA [0]<|zD 3<|zJ 34 ((azi Fq Fp) <0) (λh4=>?_) λh4=>?_
   ·
    refine zD 9<|zW (j-1)<|zD 2<|zW (j-1) ?_;obtain⟨xI,sC⟩:=zG ys ((j-1).toNat) (by first|omega| (simp only[List.length_set];omega));refine zH (j-1) 3 hJ.2.1 sC λb45 aeP=>zx 0 [0] L (λs _ hZ=>lS hJ.2.1 aeP hZ sC)<|zD 2 ?_;obtain⟨x49,Ws⟩:=zG ys (j.toNat) (by first|omega| (simp only[List.length_set];omega));refine zH j 3 hJ.2.1 Ws λb49 aIq=>zx 0 [0] L (λs _ hZ=>lS hJ.2.1 aIq hZ Ws) ?_;obtain⟨gR,qB⟩:=zG ys (j.toNat) (by first|omega| (simp only[List.length_set];omega));refine zH j 3 hJ.2.1 qB λb51 aIp=>zxo 15 λuD=>jso 0 0 [zI xI.h,zI xI.n,zI xI.l] (⟨xI.h,xI.n,xI.l⟩:ar) hJ.2.1 aIp qB rfl rfl (Nat.le_of_ble_eq_true rfl) λL6 ho7=>eE uD [] ?_;obtain⟨fD,sx⟩:=zG ((ys.set j.toNat (⟨xI.h,xI.n,xI.l⟩:ar))) ((j-1).toNat) (by first|omega| (simp only[List.length_set];omega));refine zH (j-1) 3 ho7 sx λb52 ara=>zxo 17 λCU=>jso 0 0 [zI x49.h,zI x49.n,zI x49.l] (⟨x49.h,x49.n,x49.l⟩:ar) ho7 ara sx rfl rfl (Nat.le_of_ble_eq_true rfl) λL9 lK=>kV CU<|zD 3<|zW (j-1)<|zD 2<|zF mb (⟨(j-1),((ys.set j.toNat (⟨xI.h,xI.n,xI.l⟩:ar)).set ((j-1).toNat) (⟨x49.h,x49.n,x49.l⟩:ar)),L9⟩) ⟨lK,(EL Ws sC).trans hJ.2.2.1,by dsimp only;rw[hJ.2.2.2,Wl (by omega) nA s7 Ws sC (decide_eq_true (by assumption))]⟩ [0]
   refine zD 4<|zW (i+1)<|zD 2<|zF cX (⟨(i+1),ys,L⟩) ⟨hJ.2.1,hJ.2.2.1,by dsimp only;rw[hJ.2.2.2,Uc (by omega) nA s7 (decide_eq_false (by assumption))]⟩ [0]
  have n6:=h2;replace n6:=of_decide_eq_false n6;refine zD 18<|zW (i+1)<|zD 2<|zF cX (⟨(i+1),ys,L⟩) ⟨hJ.2.1,hJ.2.2.1,by dsimp only;rw[hJ.2.2.2,Ub (by omega)]⟩ [0]
 refine zD 2<|zR (.tuple ⟨[]⟩) [] [0] L ⟨ys,⟨OZ hI.2.2.2 (by omega),hI.2.2.1⟩,hI.2.1⟩
def aUK{v:Value}{xs:List ar}{L:Cells}(ho:bJ v 3 41 bL xs L)(hN:xs.length<=12):eW zT 180 [v,zI 0,zI (xs.length:Int),zI lim,.func (.func 136) ⟨[]⟩ ⟨[]⟩] ro L (λr Y=>Ot v xs Y):=by
 refine zC [.l L]<|zD 9<|iE [1,1,0,0] [] (λ(zz:Nat)=>[(0,v),(1,zI 0),(2,zI (xs.length:Int)),(3,zI lim),(4,.func (.func 136) ⟨[]⟩ ⟨[]⟩),(10,.bool true),(11,.bool true)]) (λzz=>[.l L]) (λzz=>True) (λzz=>zz) 0 bW [0] ?_;rintro z hI K1 cX rest;refine zD 5<|zW ((xs.length:Int)-0)<|zD 8<|zJ 25 (((xs.length:Int)-0)<=12) (λh1=>?_) λh1=>?_
 ·
  refine zD 7<|jc (vs:=[v,zI 0,zI (xs.length:Int),.func (.func 136) ⟨[]⟩ ⟨[]⟩]) [0] (aUP ho (by omega)) ?_;rintro bbs Y30 ⟨aDo,aqf,aaO⟩;refine zD 2<|zR (.tuple ⟨[]⟩) [] [0] _ ⟨_,aqf,aaO⟩
 exfalso;omega
def aJB{v:Value}{xs:List ar}{L:Cells}(ho:bJ v 3 41 bL xs L)(hN:xs.length<=12):eW zT 135 [v,.func (.func 136) ⟨[]⟩ ⟨[]⟩] ro L (λr Y=>Ot v xs Y):=by
 refine zC [.l L]<|zD 3<|jol ho<|zD 6<|je (zU (xs.length:Int)) (amg (by omega))<|zxp [zU (xs.length:Int)] (λhs=>(aJE (by omega)))<|zD 1<|jc (vs:=[v,zI 0,zI (xs.length:Int),zI (ajR xs.length),.func (.func 136) ⟨[]⟩ ⟨[]⟩]) [0] (aUK ho (by omega)) ?_;rintro bbt Y13 ⟨aZy,aaJ,NC⟩;refine zD 1<|zR (.tuple ⟨[]⟩) [] [0] _ ⟨_,aaJ,NC⟩
def aFt{x y:ar}(h:(x.h==y.h&&((x.n==y.n&&(x.l==y.l&&true))&&true))=true):x=y:=by
 rcases x with ⟨a,b,c⟩;rcases y with ⟨d,e,f⟩
 simp only[Bool.and_true,au,beq_iff_eq] at h;obtain⟨rfl,rfl,rfl⟩:=h;rfl
def aPY{l:List α}(hn:l.Nodup){x y:α}(hx:l[i]?=some x) (hy:l[j]?=some y) (h:i≠j):x≠y:=λe=>by
 subst e;obtain⟨hi,e1⟩:=aB.1 hx;obtain⟨hj,e2⟩:=aB.1 hy;exact h ((RR (h₀:=hi) (h₁:=hj) hn).1 (e1.trans e2.symm))
def asx{v:Value}{xs:List ar}{L:Cells}(ho:bJ v 3 41 bL xs L)(hN:xs.length<=12)(kP:xs.Nodup):eW zT 137 [v] ro L (λr Y=>v=r/\L=Y):=by
 refine zC [.l L]<|zD 8<|jol ho<|zD 2<|zJ 8 ((xs.length:Int) <2) (λh1=>?_) λh1=>?_
 ·
  refine zD 7<|zR _ [] [0] L ⟨rfl,rfl⟩
 refine zD 8<|iE [1,1,0,1,0,0] [] (λ(zz:Int)=>[(0,v),(3,zI zz)]) (λzz=>[.l L]) (λzz=>1<=zz) (λzz=>((xs.length:Int)-zz).toNat) 1 (by omega) [0] ?_;rintro k hI K1 cX rest;refine zD 5<|jol ho<|zD 2<|zJ 13 (k <(xs.length:Int)) (λh2=>?_) λh2=>?_
 ·
  refine zD 8 ?_;obtain⟨x18,aeo⟩:=zG xs (k.toNat) (by first|omega| (simp only[aO];omega));refine zH k 3 ho aeo λb18 bhv=>zx 0 [0] L (λs _ hZ=>lS ho bhv hZ aeo)<|zD 2<|zW (k-1) ?_;obtain⟨xJ,qD⟩:=zG xs ((k-1).toNat) (by first|omega| (simp only[aO];omega));refine zH (k-1) 3 ho qD λb23 aIs=>zx 0 [0] L (λs _ hZ=>lS ho aIs hZ qD)<|jeq ZS (Q6 x18.h x18.n x18.l xJ.h xJ.n xJ.l)<|zD 1<|js 25 (x18.h==xJ.h&&(x18.n==xJ.n&&(x18.l==xJ.l&&true)&&true)) (λh3=>?_) (λh3=>?_)
  ·
   exact absurd (aFt h3) (aPY kP aeo qD (by omega))
  refine zD 4<|zW (k+1)<|zD 2<|zY cX (k+1) (by omega) [0]
 refine zD 8<|zR _ [] [0] L ⟨rfl,rfl⟩
def WY{v:Value}{xs:List ar}(hl:dq ro v 3 bL xs)(hN:xs.length<=12)(kP:xs.Nodup):eW zT 99 [v] ro [] (λr Y=>Ot r xs Y):=by
 obtain⟨fQ,rK,rJ,fg,rfl,tJ,nj,nY⟩:=hl;refine zE<|zD 7<|jc (vs:=[.slice fQ xs.length fg]) [] (biE (show dq _ _ _ _ _ from ⟨fQ,rK,rJ,fg,rfl,tJ,nj,nY⟩) (by first|omega| (simp only[aO,zM];omega))) ?_;rintro v5 L5 ho5;obtain⟨va5,vc5,R5⟩:=ho5.form;subst R5;refine zD 5<|jc (vs:=[(.slice va5 (xs).length vc5),.func (.func 136) ⟨[]⟩ ⟨[]⟩]) [0] (aJB ho5 (by omega)) ?_;rintro rv7 Y7 ⟨ys7,hp7,ho7⟩;refine zD 4<|jc (vs:=[(.slice va5 (xs).length vc5)]) [0] (asx ho7 (by have:=hp7.2.length_eq;omega) (hp7.2.nodup_iff.2 kP)) ?_;rintro _ _ ⟨rfl,rfl⟩;refine zD 3<|zR _ [] [0] Y7 ⟨_,hp7,ho7⟩
theorem MV.put{F:List (ar×Value)}{g:ar->List ar}(h:MV Z F g){k:ar}{v:Value}(hv:∀bU,Knows bU Z2->dq bU v 3 bL (g k)):MV (Z++Z2) (jL k v F) g:=by
 have h1:∀x∈jL k v F,x=(k,v)\/x∈F:=λx hx=>by
  grind [jL,HP,aV]
 intro bU hr x hx;rcases h1 x hx with rfl|hx
 .exact hv bU hr.right
 exact h bU hr.left x hx
theorem Yy[DecidableEq κ]{k x:κ}{v:Value}{F:List (κ×Value)}(h:x=k\/x∈F.map (·.1)):x∈(jL k v F).map (·.1):=by
 unfold jL;split
 .rename_i i u hf;have F5:=(th hf).2;rw[Nat.sub_zero] at F5;have hs:((F.set i (k,v)).map (·.1))=F.map (·.1):=by
   rw[C2];refine pH λj=>?_
   grind
  rw[HP,hs];rcases h with rfl|h
  .exact dR (f:=(·.1)) (zL F5)
  exact h
 rw[cC];rcases h with rfl|h
 .exact gv _ (by simp)
 exact cR _ h
def Seen(es:Array MapEntry)(seen:List Nat)(F:List (ar×Value)):Prop:=∀e∈es.toList,e∈gK es seen\/∃k,e.key=mh k/\k∈F.map (·.1)
theorem Seen.start{es:Array MapEntry}{F:List (ar×Value)}:Seen es [] F:=λe he=> .inl (by grind [J9])
theorem Seen.step{es:Array MapEntry}{ck:Nat}{F0 F:List (ar×Value)}(h:Seen es seen F)(hE:yH mh F0 es ck){e:MapEntry}(he:e∈gK es seen){k:ar}(hk:e.key=mh k){v:Value}:Seen es (seen++[e.born]) (jL k v F):=λx hx=>by
 rcases h x hx with h1| ⟨q,h1,h2⟩
 .rcases ad5 hE he h1 with rfl|h2
  .exact .inr ⟨k,hk,Yy (.inl rfl)⟩
  grind
 grind [Yy]
def aw9{a b:ar}(h:mh a=mh b):a=b:=by
 rcases a with ⟨x,y,z⟩;simp_all
theorem Seen.fin{es:Array MapEntry}{ck:Nat}{F0 F:List (ar×Value)}(h:Seen es seen F)(hl:gK es seen=[])(hE:yH mh F0 es ck){k:ar}(hk:k∈F0.map (·.1)):k∈F.map (·.1):=by
 obtain⟨⟨k',v⟩,h1,rfl⟩:=bB.1 hk;have:(mh k',v)∈es.toList.map (λe=>(e.key,e.val)):=by rw[hE.1];exact dR (f:=λx:ar×Value=>(mh x.1,x.2)) h1
 obtain⟨e,h2,h3⟩:=bB.1 this;simp only[bP] at h3;rcases h e h2 with h4| ⟨q,h4,h5⟩
 .rw[hl] at h4;cases h4
 have:=aw9 (h3.1.symm.trans h4);subst this;exact h5
structure RG(ro:Nat->Option Obj)(r:Nat)(H:List ar)(g:ar->List ar)(es:Array MapEntry)(ck:Nat)(F:List (ar×Value)):Prop where
 m:ro r=some (.map es ck)
 e:yH mh F es ck
 k:F.map (·.1)=H
 v:∀x∈F,dq ro x.2 3 bL (g x.1)
theorem adG{a x:α}(h: [a][j]?=some x):x=a/\j=0:=by grind
theorem asI{f:α->List β}{l:List α}{x:α}(h:l[i]?=some x):((l.take i).flatMap f).length+(f x).length<=(l.flatMap f).length:=by
 have h1:=E3 (f:=f) h
 grind [fF,aM]
def Dk(g1 g2:ar->List ar)(h:ar):List ar:=dh pP ((g1 h).flatMap g2)
structure afZ(ro:Nat->Option Obj)(r:Nat)(H:List ar)(g:ar->List ar)(es:Array MapEntry)(ck:Nat)(F:List (ar×Value)):Prop where
 m:ro r=some (.map es ck)
 e:yH mh F es ck
 k:∀h,h∈F.map (·.1)↔h∈H
 v:∀x∈F,dq ro x.2 3 bL (g x.1)
theorem avd[DecidableEq κ]{k x:κ}{v:Value}{F:List (κ×Value)}(h:x∈(jL k v F).map (·.1)):x=k\/x∈F.map (·.1):=by
 grind [jL,HP,HI]
def aCk{r1 NR:Nat}{IL:Array MapEntry}{F1:List (ar×Value)}{r2 ck2:Nat}{NL:Array MapEntry}{F2:List (ar×Value)}{H H2:List ar}{g1 g2:ar->List ar}(Aj:afZ ro r1 H g1 IL NR F1)(Yb:afZ ro r2 H2 g2 NL ck2 F2)(uB:∀h∈H,∀x∈g1 h,x∈H2)(hl:∀h∈H,(g1 h).length<=6/\((g1 h).flatMap g2).length<=12/\((g1 h).flatMap g2).Nodup):eW zT 173 [(.map (some r1)),(.map (some r2))] ro [] (λr Y=>∃rm F LM Z,r= .map (some rm)/\Y=LM++Z/\iq rm mh F LM/\(∀h,h∈F.map (·.1)↔h∈H)/\MV Z F (Dk g1 g2)):=by
 refine zE<|zD 6<|jmk mh λr11 Yj aeA=>zD 6<|jmR Aj.m λr13=>jg 0 [.b r13 (w6 r1 NR [])]<|zD 2<|wN<|iE [1,1,0,1,0,0] [] (λ(zz:(List Nat)×(List (ar×Value))×Cells×Cells)=>[(1,(.map (some r2))),(4,(.map none)),(5,(.map (some r11))),(13,zP r13)]) (λ(zz:(List Nat)×(List (ar×Value))×Cells×Cells)=>[.b r13 (w6 r1 NR zz.1),.l zz.2.2.1,.l zz.2.2.2]) (λ(zz:(List Nat)×(List (ar×Value))×Cells×Cells)=>iq r11 mh zz.2.1 zz.2.2.1/\Seen IL zz.1 zz.2.1/\MV zz.2.2.2 zz.2.1 (Dk g1 g2)/\∀h∈zz.2.1.map (·.1),h∈H) (λ(zz:(List Nat)×(List (ar×Value))×Cells×Cells)=>(gK IL zz.1).length) (⟨[],[],Yj,[]⟩) ⟨aeA,Seen.start,λ_ _ _ h=>(by cases h),λ_ h=>(by cases h)⟩ [1,2,0] ?_;rintro⟨seen,F,LM,Z⟩ hI K1 cX rest;dsimp only at hI;refine zD 2<|jmN (it:=r13) (kv:=mh) (seen:=seen) 0 Aj.m Aj.e (λk14 RS e14 akw mX ax7 beK=>?_) (λaGy=>?_)
 ·
  have hkH:k14∈H:=(Aj.k _).1 (List.mem_map_of_mem (f:=(·.1)) akw);have X7:=hl _ hkH;have hvv:dq ro RS 3 bL (g1 k14):=Aj.v _ akw;obtain⟨VL,qvb,qvo,Jd,rfl,qvk,Za,Y9⟩:=hvv;refine jg 0 [.b r13 (w6 r1 NR (seen++[e14.born]))]<|zD 8<|jmE (it:=r13) 0 Aj.m Aj.e mX ax7 beK<|jg 0 [.b r13 (w6 r1 NR (seen++[e14.born]))]<|zD 2<|jn λb6=>jd 15 [0]<|wN<|iE [1,1,0,1,0,0,1,1,0,1,1,0,1,0,0] [K1] (λ(zz:Nat×Value×Cells)=>[(1,(.map (some r2))),(4,(.map none)),(5,(.map (some r11))),(6,zP b6),(8,zz.2.1),(13,zP r13),(19,.slice VL ((g1 k14).length) Jd),(20,zI ((g1 k14).length:Int)),(21,zI (zz.1:Int))]) (λzz=>[.l zz.2.2,zxc b6 41 [zI k14.h,zI k14.n,zI k14.l],.b r13 (w6 r1 NR (seen++[e14.born])),.l LM,.l Z]) (λzz=>zz.1<=(g1 k14).length/\bJ zz.2.1 3 41 bL (((g1 k14).take zz.1).flatMap g2) zz.2.2) (λzz=>(g1 k14).length-zz.1) (⟨0,zS,[]⟩) ⟨by dsimp only;omega,bJ.nil _ _ _⟩ (zN 0 5) ?_;rintro⟨i,vO,LO⟩ hJ K2 mb rest;dsimp only at hJ;refine zD 5<|zJ 22 ((i:Int) <((g1 k14).length:Int)) (λh1=>?_) λh1=>?_
  ·
   refine zD 6<|zxt (g1 k14) i Jd 3 Za Y9 λxJ qD=>jn λFL=>jd 6 [0,0]<|jlu (kv:=mh) (F:=F2) (r:=r2) (K:=41) xJ (zS) false [] [] wM (λs he _=>⟨_,_,he _ _ (.inl Yb.m),Yb.e⟩) ?_;obtain⟨w28,aGM,akp⟩:=Oc (k:=xJ) (F:=F2) ((Yb.k _).2 (uB _ hkH _ (zL qD)));have hww:dq ro w28 3 bL (g2 xJ):=Yb.v _ akp;have hfm:=asI (f:=g2) qD;obtain⟨tI,Mq,Mp,qN,rfl,qwk,C4,C3⟩:=hww;refine jw 28 (.slice tI ((g2 xJ).length) qN) (show RV (zS) false xJ F2=_ from by simp only[RV,aGM];rfl) ?_;refine zxk bL 1 qN (hJ.2) C4 C3 (λVl Vi L29 Af=>?_) (hb:=by have:=X7.2.1;omega);refine zD 3<|zW ((i:Int)+1)<|zD 2<|zF mb (⟨i+1,(.slice Vl (((((g1 k14).take i).flatMap g2)++(g2 xJ))).length Vi),L29⟩) (by rw[E3 qD];exact Af) [0,2,3,4,5]
  refine jd 6 [1]<|zxo 3 λwA=>jcL (vs:=[vO]) [] [0] LO (λcK hs hZ=>WY (hJ.2.jI hZ) (by rw[bF (by omega)];exact X7.2.1) (by rw[bF (by omega)];exact X7.2.2)) ?_;rintro v34 L34 ⟨bo5,bfk,bfu⟩;refine eP wA (zN 1 5)<|zxo 4 λuD=>XZ (kv:=mh) (F:=F) (r:=r11) (K:=41) 4 k14 (v34) wM hI.1 λLm4 hm4=>kV uD<|zD 1<|C7 cX (⟨(seen++[e14.born]),_,Lm4,Z++L34⟩) ⟨hm4,hI.2.1.step Aj.e mX ax7,hI.2.2.1.put λbU hk=>(by have:=bfu;rw[bfk.1,bF (by omega)] at this;exact this.jI hk),λh hh=>(avd hh).elim (λe=>e▸hkH) (hI.2.2.2 h)⟩ (DK mX) [[4],[0],[5,1]] (Sub.refl _)
 refine jg 0 [.b r13 (w6 r1 NR seen)]<|zD 11<|zR _ [] [1,2] _ ⟨r11,F,LM,Z,rfl,rfl,hI.1,λh=>⟨hI.2.2.2 h,λhh=>hI.2.1.fin aGy Aj.e ((Aj.k _).2 hh)⟩,hI.2.2.1⟩
open Go.ConcR (KK wgBlock WgAt stA smA rd wr)
open Go.ConcM (OsLater)
noncomputable def gp(W:Nat):Value:= .pointer (some ⟨W,0,none⟩)
noncomputable def sKd(W:Nat):List FD:=[⟨152,tdF Tryz.prog 152 0 0,.normal,84,[(0,gp W)]⟩]
noncomputable def So(W:Nat):List FD:=[⟨206,tdF Tryz.prog 206 1 3,.normal,7,[(5,gp W)]⟩,⟨152,tdF Tryz.prog 152 1 3,.normal,84,[(0,gp W)]⟩]
noncomputable def Ml(W vs:Nat):List FD:=[⟨213,tdF Tryz.prog 213 1 5,.normal,13,[(9,gp W),(10,.int .u64 ((vs:Int)*KK)),(11,.int .u64 ((vs:Int)*KK+1))]⟩,⟨152,tdF Tryz.prog 152 10 6,.normal,84,[(0,gp W),(2,.int .u64 ((vs:Int)*KK)),(4,.int .u32 0)]⟩]
def CF:Frame->Bool:=λ_=>false
def onL(F:Frame->List Frame->Bl):List Frame->Bl
 |f::s=>F f s
 | []=>none
noncomputable def ck0:List Frame->Bl:=onL λf s=>Ft Tryz.prog 240 (Hk 0 0) false none [(7,0)] f s λf s=>E1 Tryz.prog 240 300 f s (UX Tryz.prog 240)
noncomputable def ckH(vs:Nat):List Frame->Bl:=onL λf s=>Ft Tryz.prog 240 (Hk ((vs:Int)*KK) 0) false (some (0,.u64,(vs:Int)*KK+1)) [(7,0),(8,0)] f s λf s=>E1 Tryz.prog 240 300 f s (ail Tryz.prog 240)
noncomputable def aaj(b:Bl):Nat:=(b.getD []).length
def aZG(W:Nat):Comes W (sKd W) [] [] (VD CF Tryz.prog 240 [Frame.enter Tryz.prog 152 ⟨[gp W]⟩ .normal]):=by unfold Comes;kernel_rfl
def aZE(W:Nat)(v:Nat->Nat->Value):Comes W (So W) [] [(1,0)] (mR CF Tryz.prog 240 gq (e9 (sKd W) v)):=by unfold Comes;kernel_rfl
def w_0(W:Nat)(v:Nat->Nat->Value):ck0 (e9 (So W) v)=some (List.replicate (aaj (ck0 (e9 (So W) v))) W):=by kernel_rfl
def aZD(W:Nat)(v:Nat->Nat->Value):Comes W (Ml W 1) [] [(7,0)] (mR CF Tryz.prog 240 (Hk (((1:Nat):Int)*KK) 0) (e9 (So W) v)):=by unfold Comes;kernel_rfl
def aZC(W:Nat)(v:Nat->Nat->Value):Comes W (Ml W 2) [] [(7,0)] (mR CF Tryz.prog 240 (Hk (((2:Nat):Int)*KK) 0) (e9 (So W) v)):=by unfold Comes;kernel_rfl
def aZB(W:Nat)(v:Nat->Nat->Value):Comes W (Ml W 3) [] [(7,0)] (mR CF Tryz.prog 240 (Hk (((3:Nat):Int)*KK) 0) (e9 (So W) v)):=by unfold Comes;kernel_rfl
def aZA(W:Nat)(v:Nat->Nat->Value):Comes W (Ml W 4) [] [(7,0)] (mR CF Tryz.prog 240 (Hk (((4:Nat):Int)*KK) 0) (e9 (So W) v)):=by unfold Comes;kernel_rfl
def w_v(W:Nat)(v:Nat->Nat->Value){n:Nat}(h1:1<=n)(h4:n<=4):Comes W (Ml W n) [] [(7,0)] (mR CF Tryz.prog 240 (Hk ((n:Int)*KK) 0) (e9 (So W) v)):=by
 obtain rfl|rfl|rfl|rfl:n=1\/n=2\/n=3\/n=4:=by omega
 .exact aZD W v
 .exact aZC W v
 .exact aZB W v
 exact aZA W v
def aZK(W:Nat)(v:Nat->Nat->Value):ckH 1 (e9 (Ml W 1) v)=some (List.replicate (aaj (ckH 1 (e9 (Ml W 1) v))) W):=by kernel_rfl
def aZJ(W:Nat)(v:Nat->Nat->Value):ckH 2 (e9 (Ml W 2) v)=some (List.replicate (aaj (ckH 2 (e9 (Ml W 2) v))) W):=by kernel_rfl
def aZI(W:Nat)(v:Nat->Nat->Value):ckH 3 (e9 (Ml W 3) v)=some (List.replicate (aaj (ckH 3 (e9 (Ml W 3) v))) W):=by kernel_rfl
def aZH(W:Nat)(v:Nat->Nat->Value):ckH 4 (e9 (Ml W 4) v)=some (List.replicate (aaj (ckH 4 (e9 (Ml W 4) v))) W):=by kernel_rfl
def w_h(W:Nat)(v:Nat->Nat->Value){n:Nat}(h1:1<=n)(h4:n<=4):∃k,ckH n (e9 (Ml W n) v)=some (List.replicate k W):=by
 obtain rfl|rfl|rfl|rfl:n=1\/n=2\/n=3\/n=4:=by omega
 .exact⟨_,aZK W v⟩
 .exact⟨_,aZJ W v⟩
 .exact⟨_,aZI W v⟩
 exact⟨_,aZH W v⟩
def aNb(W:Nat)(v:Nat->Nat->Value):Comes W (So W) [] [(7,0)] (mR CF Tryz.prog 240 (Hk (((0:Nat):Int)*KK) 0) (e9 (Ml W 1) v)):=by unfold Comes;kernel_rfl
def aNa(W:Nat)(v:Nat->Nat->Value):Comes W (So W) [] [(7,0)] (mR CF Tryz.prog 240 (Hk (((0:Nat):Int)*KK) 0) (e9 (Ml W 2) v)):=by unfold Comes;kernel_rfl
def aM9(W:Nat)(v:Nat->Nat->Value):Comes W (So W) [] [(7,0)] (mR CF Tryz.prog 240 (Hk (((1:Nat):Int)*KK) 0) (e9 (Ml W 2) v)):=by unfold Comes;kernel_rfl
def aM8(W:Nat)(v:Nat->Nat->Value):Comes W (So W) [] [(7,0)] (mR CF Tryz.prog 240 (Hk (((0:Nat):Int)*KK) 0) (e9 (Ml W 3) v)):=by unfold Comes;kernel_rfl
def aM7(W:Nat)(v:Nat->Nat->Value):Comes W (So W) [] [(7,0)] (mR CF Tryz.prog 240 (Hk (((1:Nat):Int)*KK) 0) (e9 (Ml W 3) v)):=by unfold Comes;kernel_rfl
def aM6(W:Nat)(v:Nat->Nat->Value):Comes W (So W) [] [(7,0)] (mR CF Tryz.prog 240 (Hk (((2:Nat):Int)*KK) 0) (e9 (Ml W 3) v)):=by unfold Comes;kernel_rfl
def aM5(W:Nat)(v:Nat->Nat->Value):Comes W (So W) [] [(7,0)] (mR CF Tryz.prog 240 (Hk (((0:Nat):Int)*KK) 0) (e9 (Ml W 4) v)):=by unfold Comes;kernel_rfl
def aM4(W:Nat)(v:Nat->Nat->Value):Comes W (So W) [] [(7,0)] (mR CF Tryz.prog 240 (Hk (((1:Nat):Int)*KK) 0) (e9 (Ml W 4) v)):=by unfold Comes;kernel_rfl
def aM3(W:Nat)(v:Nat->Nat->Value):Comes W (So W) [] [(7,0)] (mR CF Tryz.prog 240 (Hk (((2:Nat):Int)*KK) 0) (e9 (Ml W 4) v)):=by unfold Comes;kernel_rfl
def aM2(W:Nat)(v:Nat->Nat->Value):Comes W (So W) [] [(7,0)] (mR CF Tryz.prog 240 (Hk (((3:Nat):Int)*KK) 0) (e9 (Ml W 4) v)):=by unfold Comes;kernel_rfl
def w_m(W:Nat)(v:Nat->Nat->Value){n k:Nat}(h4:n<=4)(hk:k <n):Comes W (So W) [] [(7,0)] (mR CF Tryz.prog 240 (Hk ((k:Int)*KK) 0) (e9 (Ml W n) v)):=by
 obtain rfl|rfl|rfl|rfl:n=1\/n=2\/n=3\/n=4:=by omega
 .obtain rfl:k=0:=by omega
  exact aNb W v
 .obtain rfl|rfl:k=0\/k=1:=by omega
  .exact aNa W v
  exact aM9 W v
 .obtain rfl|rfl|rfl:k=0\/k=1\/k=2:=by omega
  .exact aM8 W v
  .exact aM7 W v
  exact aM6 W v
 obtain rfl|rfl|rfl|rfl:k=0\/k=1\/k=2\/k=3:=by omega
 .exact aM5 W v
 .exact aM4 W v
 .exact aM3 W v
 exact aM2 W v
section
variable {ι:Type} {E:fW ι} {Fin:Goroutine->Prop} {c:Frame} {cs:List Frame}
def xP{P:Program}{main:Bool}{Live:World->Prop}{S S':Goroutine->Prop}(h:∀g,S g->S' g):∀ {n:Nat} {g:Goroutine},Pure P main Live S n g->Pure P main Live S' n g
 |0,g,hp=>h g hp
 |n+1,g,⟨h1,g',h2,h3⟩=>⟨h1,g',h2,xP h h3⟩
end
def ajV{Hb:Nat}{W:ky}{x:cy}(hH:ro Hb=some (.pending ⟨W.cells (zS)⟩ 113))(hD:1<=W.D/\W.D<=4):iz zT 210 [zP Hb,.agg ⟨[zI x.a,zI x.b,zI x.c,zI x.d]⟩] ro (.bool (awa x W.D W.S)):=by
 refine zE<|zD 2<|jn λb3=>zD 12<|iE [1,1,0,1,0,0] [] (λ(zz:Nat×Nat)=>[(0,zP Hb),(3,zP b3),(5,zI (zz.2:Int)),(6,zI (zz.1:Int))]) (λzz=>[zxc b3 120 [zI x.a,zI x.b,zI x.c,zI x.d]]) (λzz=>(1<=zz.1/\(zz.1:Int)<=W.D+1/\zz.2 <zz.1)/\awa x W.D W.S=Gz x W.D W.S zz.2 (List.range' zz.1 (W.D.toNat+1-zz.1))) (λzz=>W.D.toNat+1-zz.1) (⟨1,0⟩) ⟨by omega,rfl⟩ [0] ?_;rintro⟨k,f⟩ hI K1 cX rest;dsimp only at hI;refine zD 8<|jlh (b:=Hb) (off:=5) (l:=W.cells (zS)) hH (by decide) rfl<|zD 2<|zJ 13 ((k:Int)<=W.D) (λh1=>?_) λh1=>?_
 ·
  refine zD 12<|jlh (b:=Hb) (off:=5) (l:=W.cells (zS)) hH (by decide) rfl<|zD 2<|js 7 (decide ((k:Int) <W.D)) (λh2=>?_) (λh2=>?_)
  ·
   have n6:=h2;replace n6:=ai n6;refine zD 1<|Jg (b:=b3) (off:=0) (len:=4) (sz:=1) (k:Int) (by omega)<|zx (b:=b3) (off:=0+(k:Int).toNat*1) (m:=1) (vs:=[zI (x.at k)]) 0 [0] [(b3,.cells ⟨[zI x.a,zI x.b,zI x.c,zI x.d]⟩ 120 (0,0))] (λs _ hZ=>lR (hZ _ (.head _)) (vt (by omega)))<|zD 1<|Jg (b:=b3) (off:=0) (len:=4) (sz:=1) (f:Int) (by omega)<|zx (b:=b3) (off:=0+(f:Int).toNat*1) (m:=1) (vs:=[zI (x.at f)]) 0 [0] [(b3,.cells ⟨[zI x.a,zI x.b,zI x.c,zI x.d]⟩ 120 (0,0))] (λs _ hZ=>lR (hZ _ (.head _)) (vt (by omega)))<|zD 3<|zJ 31 ((x.at k)=(x.at f)) (λh3=>?_) λh3=>?_
   ·
    refine zD 4<|zW ((k:Int)+1)<|zD 2<|zY cX (⟨k+1,f⟩) ⟨by omega,hI.2.trans (aoa (by omega) (by omega))⟩ [0]
   refine zD 6<|Jg (b:=b3) (off:=0) (len:=4) (sz:=1) (f:Int) (by omega)<|zx (b:=b3) (off:=0+(f:Int).toNat*1) (m:=1) (vs:=[zI (x.at f)]) 0 [0] [(b3,.cells ⟨[zI x.a,zI x.b,zI x.c,zI x.d]⟩ 120 (0,0))] (λs _ hZ=>lR (hZ _ (.head _)) (vt (by omega)))<|zD 2<|jj 3 [(0,zP Hb),(3,zP b3),(5,zI (f:Int)),(6,zI (k:Int)),(39,.bool ((!decide ((x.at f)=(-1)))&&(decide ((f:Int)>0))))] (λni=>?_) (λhj=>?_);rotate_left;refine js 36 (!decide ((x.at f)=(-1))) (λh4=>?_) (λh4=>?_)
   ·
    have KJ:=h4;replace KJ:=ah (by simpa using KJ);refine zD 3<|zxw 39 hj (zya h4)
   ·
    have KJ:=h4;replace KJ:=ai (by simpa using KJ);refine zD 3<|zxw 39 hj (zyb h4)
   refine zD 1<|jj 8 [(0,zP Hb),(3,zP b3),(5,zI (f:Int)),(6,zI (k:Int)),(48,.bool (((!decide ((x.at f)=(-1)))&&(decide ((f:Int)>0)))&&(decide ((k:Int) <W.D))))] (λni=>?_) (λhj=>?_);rotate_left;refine js 40 ((!decide ((x.at f)=(-1)))&&(decide ((f:Int)>0))) (λh5=>?_) (λh5=>?_)
   ·
    have QG:=h5
    try simp only[zB] at QG
    refine zD 5<|jlh (b:=Hb) (off:=5) (l:=W.cells (zS)) hH (by decide) rfl<|zD 2<|zxw 48 hj (zya h5)
   ·
    have QG:=h5
    try simp only[zB] at QG
    refine zD 8<|zxw 48 hj (zyb h5)
   refine zD 1<|jj 10 [(0,zP Hb),(3,zP b3),(5,zI (f:Int)),(6,zI (k:Int)),(59,.bool ((((!decide ((x.at f)=(-1)))&&(decide ((f:Int)>0)))&&(decide ((k:Int) <W.D)))&&(decide (((k:Int)-(f:Int)) <W.S))))] (λni=>?_) (λhj=>?_);rotate_left;refine js 49 (((!decide ((x.at f)=(-1)))&&(decide ((f:Int)>0)))&&(decide ((k:Int) <W.D))) (λh6=>?_) (λh6=>?_)
   ·
    have G5:=h6
    try simp only[zB] at G5
    refine zD 2<|zW ((k:Int)-(f:Int))<|zD 4<|jlh (b:=Hb) (off:=6) (l:=W.cells (zS)) hH (by decide) rfl<|zD 2<|zxw 59 hj (zya h6)
   ·
    have G5:=h6
    try simp only[zB] at G5
    refine zD 10<|zxw 59 hj (zyb h6)
   refine zD 1<|js 59 ((((!decide ((x.at f)=(-1)))&&(decide ((f:Int)>0)))&&(decide ((k:Int) <W.D)))&&(decide (((k:Int)-(f:Int)) <W.S))) (λh7=>?_) (λh7=>?_)
   ·
    try simp only[zB] at h7
    refine zD 6<|zX (.bool false) ⟨by rw[hI.2.trans (aob (by omega) (by omega) (by omega))],rfl⟩
   try simp only[zB] at h7
   refine zD 8<|zW ((k:Int)+1)<|zD 2<|zY cX (⟨k+1,k⟩) ⟨by omega,hI.2.trans (aoc (by omega) (by omega) (by omega))⟩ [0]
  have n6:=h2;replace n6:=ah n6;refine zD 15<|Jg (b:=b3) (off:=0) (len:=4) (sz:=1) (f:Int) (by omega)<|zx (b:=b3) (off:=0+(f:Int).toNat*1) (m:=1) (vs:=[zI (x.at f)]) 0 [0] [(b3,.cells ⟨[zI x.a,zI x.b,zI x.c,zI x.d]⟩ 120 (0,0))] (λs _ hZ=>lR (hZ _ (.head _)) (vt (by omega)))<|zD 2<|jj 3 [(0,zP Hb),(3,zP b3),(5,zI (f:Int)),(6,zI (k:Int)),(39,.bool ((!decide ((x.at f)=(-1)))&&(decide ((f:Int)>0))))] (λni=>?_) (λhj=>?_);rotate_left;refine js 36 (!decide ((x.at f)=(-1))) (λh8=>?_) (λh8=>?_)
  ·
   have h8g:=h8;replace h8g:=ah (by simpa using h8g);refine zD 3<|zxw 39 hj (zya h8)
  ·
   have h8g:=h8;replace h8g:=ai (by simpa using h8g);refine zD 3<|zxw 39 hj (zyb h8)
  refine zD 1<|jj 8 [(0,zP Hb),(3,zP b3),(5,zI (f:Int)),(6,zI (k:Int)),(48,.bool (((!decide ((x.at f)=(-1)))&&(decide ((f:Int)>0)))&&(decide ((k:Int) <W.D))))] (λni=>?_) (λhj=>?_);rotate_left;refine js 40 ((!decide ((x.at f)=(-1)))&&(decide ((f:Int)>0))) (λh9=>?_) (λh9=>?_)
  ·
   have h9g:=h9
   try simp only[zB] at h9g
   refine zD 5<|jlh (b:=Hb) (off:=5) (l:=W.cells (zS)) hH (by decide) rfl<|zD 2<|zxw 48 hj (zya h9)
  ·
   have h9g:=h9
   try simp only[zB] at h9g
   refine zD 8<|zxw 48 hj (zyb h9)
  refine zD 1<|jj 10 [(0,zP Hb),(3,zP b3),(5,zI (f:Int)),(6,zI (k:Int)),(59,.bool ((((!decide ((x.at f)=(-1)))&&(decide ((f:Int)>0)))&&(decide ((k:Int) <W.D)))&&(decide (((k:Int)-(f:Int)) <W.S))))] (λni=>?_) (λhj=>?_);rotate_left;refine js 49 (((!decide ((x.at f)=(-1)))&&(decide ((f:Int)>0)))&&(decide ((k:Int) <W.D))) (λxF=>?_) (λxF=>?_)
  ·
   have aJp:=xF
   try simp only[zB] at aJp
   refine zD 2<|zW ((k:Int)-(f:Int))<|zD 4<|jlh (b:=Hb) (off:=6) (l:=W.cells (zS)) hH (by decide) rfl<|zD 2<|zxw 59 hj (zya xF)
  ·
   have aJp:=xF
   try simp only[zB] at aJp
   refine zD 10<|zxw 59 hj (zyb xF)
  refine zD 1<|js 59 ((((!decide ((x.at f)=(-1)))&&(decide ((f:Int)>0)))&&(decide ((k:Int) <W.D)))&&(decide (((k:Int)-(f:Int)) <W.S))) (λwD=>?_) (λwD=>?_)
  ·
   try simp only[zB] at wD
   refine zD 6<|zX (.bool false) ⟨by rw[hI.2.trans (aob (by omega) (by omega) (by omega))],rfl⟩
  try simp only[zB] at wD
  refine zD 8<|zW ((k:Int)+1)<|zD 2<|zY cX (⟨k+1,k⟩) ⟨by omega,hI.2.trans (aoc (by omega) (by omega) (by omega))⟩ [0]
 refine zD 7<|zX (.bool true) ⟨by rw[hI.2,show W.D.toNat+1-k=0 by omega];rfl,rfl⟩
end Go.L
