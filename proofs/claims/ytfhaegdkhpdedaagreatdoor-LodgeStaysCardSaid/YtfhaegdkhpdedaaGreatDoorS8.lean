/- Part 8 of the proof. -/
import Derived.Test.YtfhaegdkhpdedaaGreatDoorS7
import Derived.Test.YtfhaegdkhpdedaaGreatDoorProg
set_option maxRecDepth 100000
set_option maxHeartbeats 4000000
set_option linter.all false
namespace Go.L
open Go Go.Conc Go.Proofs
variable {ro:Nat→Option Obj} {α κ β:Type} {Z LM Z2:Cells} {n c5 c6 ck b t l lim hi:Int} {i rm o j:Nat} {rs:List fR} {vl:Value} {na nb:ByteArray} {T:TypeId} {seen:List Nat} {xs:List Int}
def uqN(rs:List fR)(a to:ByteArray):Nat->Nat->Option Nat
 |0,_=>none
 |f+1,m=>bif decide (0 <(Yy rs to m a []).length) then some m else uqN rs a to f (m+1)
def uq(rs:List fR)(a to:ByteArray):Option Nat:=uqN rs a to 3 0
def pK(c:UInt8):ByteArray:=if c.toNat=67 then bs [99,104] else if c.toNat=74 then bs [106,117] else if c.toNat=89 then bs [106,97] else if c.toNat=88 then bs [115,104] else if c.toNat <97 then bs [c.toNat+32] else bs [c.toNat]
def SJ:List UInt8->ByteArray->ByteArray
 | [],a=>a
 |c::l,a=>SJ l (a++pK c)
def keyOf(w:ByteArray):ByteArray:=SJ w.data.toList (bs [])
theorem axb{l:List UInt8}{k:Nat}{c:UInt8}{a:ByteArray}(h:l[k]?=some c):SJ (l.drop k) a=SJ (l.drop (k+1)) (a++pK c):=by rw[lB h];rfl
theorem apL{l:List UInt8}{k:Nat}{a:ByteArray}(h:l[k]?=none):SJ (l.drop k) a=a:=by rw[py (by grind)];rfl
def OG(rs:List fR)(a b:ByteArray):Int:=match uq rs (keyOf a) (keyOf b) with
 |none=>2
 |some 0=>1
 |some _=>3
structure nz(w:ByteArray):Prop where
 n:1<=w.size/\w.size<=6
 s:Script w
def aeq(c:UInt8):Prop:=Iv c=true\/PJ c=true
def nz.let{w:ByteArray}(h:nz w):∀c∈w.data.toList,aeq c:=λc hc=>h.s.elim (λk=> .inl (k c hc)) λk=> .inr (k c hc)
def aiX:((List.range 256).all λn=> !(Iv (UInt8.ofNat n)||PJ (UInt8.ofNat n))||(awP (pK (UInt8.ofNat n))&&(Nat.ble 1 (pK (UInt8.ofNat n)).size&&Nat.ble (pK (UInt8.ofNat n)).size 2)))=true:=by kernel_rfl
def Zd{c:UInt8}(h:aeq c):FB (pK c)/\1<=(pK c).size/\(pK c).size<=2:=by
 have h2:=cM.1 aiX _ (dZ.2 c.toNat_lt);have h3:(Iv c||PJ c)=true:=by rcases h with h|h<;>simp[h]
 simp_all[aej]
theorem ahs:∀ {l:List UInt8} {a:ByteArray},(∀c∈l,aeq c)->FB a->FB (SJ l a)/\(SJ l a).size<=a.size+2*l.length
 | [],a,_,ha=>⟨ha,by simp[SJ]⟩
 |c::l,a,h,ha=>by
  have h1:=Zd (h c (by simp));obtain⟨h2,h3⟩:=ahs (l:=l) (λx hx=>h x (by grind)) (ha.app h1.1)
  grind [SJ,ByteArray.size_append,aJ]
theorem aaB{w:ByteArray}(h:nz w):FB (keyOf w)/\(keyOf w).size<=12:=by
 have h1:=ahs (a:=bs []) h.let (λb hb=>by cases hb);have h2:w.data.toList.length=w.size:=YF;have h3:=h.n;exact⟨h1.1,by have e:(bs []).size=0:=rfl;grind [keyOf]⟩
theorem awO{c:UInt8}(h:aeq c)(h1:¬(c.toNat:Int)=67)(h2:¬(c.toNat:Int)=74)(h3:¬(c.toNat:Int)=89)(h4:¬(c.toNat:Int)=88):apq c=pK c:=by
 simp only[apq,pK,cy (show ¬c.toNat=67 by omega),cy (show ¬c.toNat=74 by omega),cy (show ¬c.toNat=89 by omega),cy (show ¬c.toNat=88 by omega)];split
 .simp only[akR,bs];rw[AI .u8 rfl _ (by omega) (by simp[IntKind.bits];omega),show ((c.toNat:Int)+32).toNat=c.toNat+32 by omega];rfl
 simp[BS,bs]
def let_128{c:UInt8}(h:aeq c):c.toNat <128:=by
 rcases h with h|h
 .simp only[Iv,av,si] at h;omega
 simp only[PJ,av,si] at h;omega
def aFF{c:UInt8}(h:aeq c):iI zT 227 [.int .i32 (c.toNat:Int)] ro (.string (pK c)):=by
 refine zE<|zD 29<|zJ 5 ((c.toNat:Int)=67) (λh1=>?_) λh1=>?_
 ·
  refine zD 8<|zX (.string (bs [99,104])) ⟨by rw[pK,dN (by omega)]<;>rfl,rfl⟩
 refine zD 8<|zJ 7 ((c.toNat:Int)=74) (λh2=>?_) λh2=>?_
 ·
  refine zD 17<|jsa (a:=(bs [106])) (b:=(bs [117])) 9 (by decide)<|zD 3<|zX (.string ((bs [106])++(bs [117]))) ⟨by rw[pK,cy (by omega),dN (by omega)]<;>rfl,rfl⟩
 refine zD 8<|zJ 9 ((c.toNat:Int)=89) (λh3=>?_) λh3=>?_
 ·
  refine zD 16<|jsa (a:=(bs [106])) (b:=(bs [97])) 9 (by decide)<|zD 3<|zX (.string ((bs [106])++(bs [97]))) ⟨by rw[pK,cy (by omega),cy (by omega),dN (by omega)]<;>rfl,rfl⟩
 refine zD 7<|zJ 11 ((c.toNat:Int)=88) (λh4=>?_) λh4=>?_
 ·
  refine zD 8<|zX (.string (bs [115,104])) ⟨by rw[pK,cy (by omega),cy (by omega),cy (by omega),dN (by omega)]<;>rfl,rfl⟩
 refine zD 6<|je (.string (BS c)) (ayO (let_128 h))<|zxp [.string (BS c)] (λhs=>(bix h))<|zD 3<|zX (.string (apq c)) ⟨by rw[awO h (by omega) (by omega) (by omega) (by omega)],rfl⟩
def awG{w to:ByteArray}(hl:dk ro vl 2 jO rs)(hR:∀r∈rs,wh r)(hw:FB w)(xP:w.size<=100)(hq:rs.length<=100):eT zT 179 [.string w,vl,.string to] ro [] (λr Y=>(∃n v ps,uq rs w to=some n/\r= .tuple ⟨[v,.bool true]⟩/\bI v 1 9 mG ps Y/\ps.length=n+1)\/(uq rs w to=none/\r= .tuple ⟨[zS,.bool false]⟩/\Y=[])):=by
 obtain⟨fO,rh,q9,fb,rfl,sV,mR,nN⟩:=hl;refine zE<|zD 11<|iz [1,0,1,0,0] [] (λ(zz:Nat)=>[(0,.string w),(1,.slice fO rs.length fb),(2,.string to),(11,zI (zz:Int))]) (λzz=>[]) (λzz=>zz<=3/\uq rs w to=uqN rs w to (3-zz) zz) (λzz=>3-zz) 0 ⟨by omega,rfl⟩ [] ?_;rintro k hI K1 cU rest;refine zD 5<|zJ 12 ((k:Int) <3) (λh1=>?_) λh1=>?_
 ·
  refine zD 15<|jc (vs:=[.string w,.slice fO rs.length fb,.string to,zI (k:Int)]) [] (ao9 (show dk _ _ _ _ _ from ⟨fO,rh,q9,fb,rfl,sV,mR,nN⟩)) ?_;rintro _ _ ⟨apo,apn,apm,apl,rfl,rfl⟩;refine jg 0 [zxc apo 263 [.string w],zxc apn 30 [.slice fO rs.length fb],zxc apm 263 [.string to],zxc apl 3 [zI (k:Int)]]<|jf (zN 0 4) ((apo,.cells ⟨[.string w]⟩ 263 (0,0))::((apn,.cells ⟨[.slice fO rs.length fb]⟩ 30 (0,0))::((apm,.cells ⟨[.string to]⟩ 263 (0,0))::[(apl,.cells ⟨[zI (k:Int)]⟩ 3 (0,0))]))) λro4 rF Uf=>jc (vs:=[.func (.func 271) ⟨[]⟩ ⟨[zP apl,zP apm,zP apn,zP apo]⟩,.func (.func 230) ⟨[]⟩ ⟨[]⟩]) [] (aFH (ajI (Uf _ (.tail _ (.tail _ (.tail _ (.head _))))) (Uf _ (.tail _ (.tail _ (.head _)))) (Uf _ (.tail _ (.head _))) (Uf _ (.head _)) ((show dk _ _ _ _ _ from ⟨fO,rh,q9,fb,rfl,sV,mR,nN⟩).up rF) hR hw xP hq (by omega)) (λx hx=>by have:=Xy hx;simp at this;omega)) ?_;rintro _ L20 ⟨v20,rfl,bcR,aa4,aHH⟩;refine zD 10<|js 23 (decide (0 <(Yy rs to k w []).length)) (λh5=>?_) (λh5=>?_)
  ·
   refine zD 8<|cd q0.a (.tuple ⟨[v20,.bool true]⟩) [] [0] L20 rF ⟨_,_,rfl,rfl,.inl ⟨k,v20,bcR,by rw[hI.2,show 3-k=(3-(k+1))+1 by omega,uqN,h5];rfl,rfl,aa4,by have:=Xy (aHH (ah h5));simpa using this⟩⟩
  refine zD 3<|zW ((k:Int)+1)<|zD 2<|dX cU (k+1) ⟨by omega,by rw[hI.2,show 3-k=(3-(k+1))+1 by omega,uqN,h5];rfl⟩ (by omega) [] rF
 refine zD 8<|zX _ (.inr ⟨by rw[hI.2,show 3-k=0 by omega];rfl,rfl,rfl⟩)
def aFX{c:UInt8}(h:aeq c):c.toNat <128:=by
 rcases h with h|h
 .simp only[Iv,av,si] at h;omega
 simp only[PJ,av,si] at h;omega
theorem aFI{w to:ByteArray}(hl:dk ro vl 2 jO rs)(hR:∀r∈rs,wh r)(hw:FB w)(xP:w.size<=100)(hq:rs.length<=100):eT zT 179 [.string w,vl,.string to] ro [] (λr Y=>∃v ps ok,r= .tuple ⟨[v,.bool ok]⟩/\bI v 1 9 mG ps Y/\(ok=true->uq rs w to=some (ps.length-1)/\1<=ps.length)/\(ok=false->uq rs w to=none)):=by
 refine(awG hl hR hw xP hq).mono λ_ _ h=>?_;rcases h with ⟨n,v,ps,h1,h2,h3,h4⟩| ⟨h1,h2,h3⟩
 .grind
 subst h3;exact⟨_,[],false,h2,bI.nil _ _ _,nofun,λ_=>h1⟩
def uN(rs:List fR)(a b:ByteArray):Int:=match uq rs a b with
 |some n=>n
 |none=>0
def uE(rs:List fR)(a b:ByteArray):Int:=match uq rs a b with
 |some _=>0
 |none=>11
theorem az6{a to:ByteArray}:∀ {f m n:Nat},uqN rs a to f m=some n->n <m+f
 |0,_,_,h=>by cases h
 |f+1,m,n,h=>by
  simp only[uqN] at h;cases hd:decide (0 <(Yy rs to m a []).length) with
  |true=>grind
  |false=>rw[hd] at h;have:=az6 h;omega
def nOf{w:ByteArray}(hw:nz w):iI zT 178 [.string w] ro (.string (keyOf w)):=by
 refine zE<|zD 12<|jn λr7=>zD 2<|iz [1,1,0,1,0,0] [] (λ(zz:Nat×ByteArray)=>[(2,.string (bs [])),(3,.string zz.2),(7,zP r7)]) (λzz=>[.b r7 (.stringIter w zz.1)]) (λzz=>(zz.1<=w.data.toList.length/\zz.2.size<=2*zz.1)/\keyOf w=SJ (w.data.toList.drop zz.1) zz.2) (λzz=>w.data.toList.length-zz.1) (⟨0,(bs [])⟩) ⟨⟨by omega,Nat.le_refl _⟩,rfl⟩ [0] ?_;rintro⟨p,a⟩ hI K1 cU rest;dsimp only at hI;refine zD 2 ?_;cases hn8:w.data.toList[p]? with
 |some x8=>
  refine jnA r7 0 hn8 (aFX (hw.let _ (zL hn8)))<|zD 11 ?_;have hso:=Zd (hw.let _ (zL hn8));have hlen:w.data.toList.length=w.size:=Array.length_toList;have hwn:=hw.n;refine zD 3<|zxp [.int .i32 (x8.toNat:Int)] (λhs=>(aFF (hw.let _ (zL hn8))))<|jsa (a:=a) (b:=(pK x8)) 9 (by omega)<|zD 2<|dX cU (⟨p+1,(a++pK x8)⟩) ⟨⟨by have:=(List.getElem?_eq_some_iff.1 hn8).1;dsimp only;omega,by dsimp only;rw[ByteArray.size_append];omega⟩,by rw[hI.2,axb hn8]⟩ (by have:=(List.getElem?_eq_some_iff.1 hn8).1;dsimp only;omega) [0] (Sub.refl _)
 |none=>
  refine jnZ r7 0 hn8<|zD 11<|zX _ ⟨by rw[hI.2,apL hn8],rfl⟩
def awF(hl:dk ro vl 2 jO rs)(hR:∀r∈rs,wh r)(hq:rs.length<=4)(hna:nz na)(hnb:nz nb):eT zT 132 [vl,.string na,.string nb] ro [] (λr Y=>∃v ps e,r= .tuple ⟨[v,zI e]⟩/\bI v 1 9 mG ps Y/\ps.length<=3/\((e=0/\uq rs (keyOf na) (keyOf nb)=some (ps.length-1)/\1<=ps.length)\/(e=11/\uq rs (keyOf na) (keyOf nb)=none))):=by
 obtain⟨fO,rh,q9,fb,rfl,sV,mR,nN⟩:=hl;refine zE<|zD 9<|zxp [.slice fO rs.length fb] (λhs=>ajG ((show dk _ _ _ _ _ from ⟨fO,rh,q9,fb,rfl,sV,mR,nN⟩).up hs) (by omega) hR)<|zD 14<|jn λEI=>jp (vs:=[.slice (some ⟨EI,0,none⟩) 2 2]) [0] [(EI,.cells ⟨([na,nb].map mG).flatten⟩ 9 (0,0))] (λcK hs hZ=>ao8 (eZ [na,nb] hZ.head (by intro p hp;rfl)) (by first|omega| (simp only[aM,zM];omega)) (by intro x hx;simp only[aN,fF,aZ] at hx;rcases hx with rfl|rfl;exact⟨hna.n,hna.s⟩;exact⟨hnb.n,hnb.s⟩)) ?_;refine zD 12<|zxp [.string na] (λhs=>(nOf hna))<|zD 2<|zxp [.string nb] (λhs=>(nOf hnb))<|jc (vs:=[.string (keyOf na),.slice fO rs.length fb,.string (keyOf nb)]) [] (aFI (show dk _ _ _ _ _ from ⟨fO,rh,q9,fb,rfl,sV,mR,nN⟩) hR (aaB hna).1 (by have:=(aaB hna).2;omega) (by omega)) ?_;rintro _ L30 ⟨v30,bcQ,bcY,rfl,aa3,aGB,bek⟩;refine zD 12<|js 34 (!bcY) (λh1=>?_) (λh1=>?_)
 ·
  try simp only[zB] at h1
  refine zD 7<|zX _ ⟨_,[],_,rfl,bI.nil _ _ _,by simp,.inr ⟨rfl,bek (by simp_all)⟩⟩
 try simp only[zB] at h1
 refine zD 9<|zR _ [] [0] _ ⟨_,bcQ,_,rfl,aa3,by have:=az6 (aGB (by simp_all)).1;have:=(aGB (by simp_all)).2;omega,.inl ⟨rfl,aGB (by simp_all)⟩⟩
def aP3(hl:dk ro vl 2 jO rs)(hR:∀r∈rs,wh r)(hq:rs.length<=4)(hna:nz na)(hnb:nz nb):iI zT 96 [vl,.string na,.string nb] ro (.tuple ⟨[zI (uN rs (keyOf na) (keyOf nb)),zI (uE rs (keyOf na) (keyOf nb))]⟩):=by
 obtain⟨fO,rh,q9,fb,rfl,sV,mR,nN⟩:=hl;refine zE<|zD 10<|jc (vs:=[.slice fO rs.length fb,.string na,.string nb]) [] (awF (show dk _ _ _ _ _ from ⟨fO,rh,q9,fb,rfl,sV,mR,nN⟩) hR hq hna hnb) ?_;rintro _ Bu ⟨RV,Nz,e14,rfl,KH,brD,nf⟩;refine zD 12<|js 18 (!decide (e14=0)) (λh1=>?_) (λh1=>?_)
 ·
  replace h1:=af (by simpa using h1);refine zD 8<|zX (.tuple ⟨[zI 0,zI e14]⟩) ⟨by rcases nf with ⟨h1,h2,h3⟩| ⟨h1,h2⟩<;>simp only[uN,uE,h2]<;>(subst h1;simp_all<;>omega),rfl⟩
 replace h1:=ah (by simpa using h1);refine zD 5<|jol KH<|zW ((Nz.length:Int)-1)<|zD 4<|zX (.tuple ⟨[zI ((Nz.length:Int)-1),zI 0]⟩) ⟨by rcases nf with ⟨h1,h2,h3⟩| ⟨h1,h2⟩<;>simp only[uN,uE,h2]<;>(subst h1;simp_all<;>omega),rfl⟩
def aah(hl:dk ro vl 2 jO rs)(hR:∀r∈rs,wh r)(hq:rs.length<=4)(hna:nz na)(hnb:nz nb):iI zT 40 [vl,.string na,.string nb] ro (.tuple ⟨[zI (OG rs na nb),zI 0]⟩):=by
 obtain⟨fO,rh,q9,fb,rfl,sV,mR,nN⟩:=hl;refine zE<|zD 10<|zxp [.slice fO rs.length fb,.string na,.string nb] (λhs=>aP3 ((show dk _ _ _ _ _ from ⟨fO,rh,q9,fb,rfl,sV,mR,nN⟩).up hs) hR hq hna hnb)<|zD 14<|zJ 17 ((uE rs (keyOf na) (keyOf nb))=11) (λh1=>?_) λh1=>?_
 ·
  refine zD 7<|zX (.tuple ⟨[zI 2,zI 0]⟩) ⟨by simp only[uN,uE,OG] at*;rcases huq:uq rs (keyOf na) (keyOf nb) with _|_|n<;>simp_all<;>omega,rfl⟩
 refine zD 7<|js 20 (!decide ((uE rs (keyOf na) (keyOf nb))=0)) (λh2=>?_) (λh2=>?_)
 ·
  replace h2:=af (by simpa using h2);refine zD 8<|zX (.tuple ⟨[zI 0,zI (uE rs (keyOf na) (keyOf nb))]⟩) ⟨by simp only[uN,uE,OG] at*;rcases huq:uq rs (keyOf na) (keyOf nb) with _|_|n<;>simp_all<;>omega,rfl⟩
 replace h2:=ah (by simpa using h2);refine zD 7<|zJ 24 ((uN rs (keyOf na) (keyOf nb))=0) (λh3=>?_) λh3=>?_
 ·
  refine zD 7<|zX (.tuple ⟨[zI 1,zI 0]⟩) ⟨by simp only[uN,uE,OG] at*;rcases huq:uq rs (keyOf na) (keyOf nb) with _|_|n<;>simp_all<;>omega,rfl⟩
 refine zD 8<|zX (.tuple ⟨[zI 3,zI 0]⟩) ⟨by simp only[uN,uE,OG] at*;rcases huq:uq rs (keyOf na) (keyOf nb) with _|_|n<;>simp_all<;>omega,rfl⟩
def at6(ro:Nat->Option Obj)(v:Value)(W:List (List Int)):Prop:=∃ws,dk ro v 1 qa ws/\kz (λw l=>dk ro w 1 eC l) ws W
def uf(a b:Int):Int:=if a <b then-1 else if a>b then 1 else 0
def orL:List Int->Int
 | []=>0
 |x::l=>if x=0 then orL l else x
theorem aoD{l:List Int}{k:Nat}{x:Int}(h:l[k]?=some x):orL (l.drop k)=if x=0 then orL (l.drop (k+1)) else x:=by rw[lB h];rfl
theorem awj{l:List Int}{k:Nat}(h:¬k <l.length):orL (l.drop k)=0:=by rw[py h];rfl
def NU(x y:au):Int:=orL [uf x.n y.n,uf x.l y.l]
def ay6{x y:au}(h:mL x y):NU x y <0:=by
 rcases h with h| ⟨h1,h2⟩
 .have e:uf x.n y.n= -1:=dN h;simp[NU,orL,e]
 have e:uf x.n y.n=0:=by simp only[uf];rw[cy (by omega),cy (by omega)]
 have e2:uf x.l y.l= -1:=dN h2;simp[NU,orL,e,e2]
def aJH{a:Int}:iI zT 217 [zI a] ro (.bool false):=by
 refine zE<|zD 12<|zX (.bool (!decide (a=a))) ⟨by simp,rfl⟩
def ayu{a:Int}:iI zT 157 [zI a,zI b] ro (zI (uf a b)):=by
 refine zE<|zD 7<|zxp [zI a] (λhs=>aJH)<|zD 5<|zxp [zI b] (λhs=>aJH)<|zD 23<|zJ 16 (a <b) (λh1=>?_) λh1=>?_
 ·
  refine zD 6<|zX _ ⟨by simp only[uf];first|rw[dN (by omega)]|rw[cy (by omega),dN (by omega)]|rw[cy (by omega),cy (by omega)],rfl⟩
 refine zD 9<|zJ 19 (a>b) (λh2=>?_) λh2=>?_
 ·
  refine zD 6<|zX _ ⟨by simp only[uf];first|rw[dN (by omega)]|rw[cy (by omega),dN (by omega)]|rw[cy (by omega),cy (by omega)],rfl⟩
 refine zD 7<|zX _ ⟨by simp only[uf];first|rw[dN (by omega)]|rw[cy (by omega),dN (by omega)]|rw[cy (by omega),cy (by omega)],rfl⟩
def gOr{v:Value}(hl:dk ro v 1 eC xs)(hn:xs.length<=1000):iI zT 181 [v] ro (zI (orL xs)):=by
 obtain⟨fO,rh,q9,fb,rfl,sV,mR,nN⟩:=hl;refine zE<|zD 16<|iz [1,1,0,1,0,0] [] (λ(zz:Nat)=>[(3,zI 0),(6,.slice fO xs.length fb),(7,zI (xs.length:Int)),(8,zI (zz:Int))]) (λzz=>[]) (λzz=>zz<=xs.length/\orL xs=orL (xs.drop zz)) (λzz=>xs.length-zz) 0 ⟨by omega,rfl⟩ [] ?_;rintro k hI K1 cU rest;refine zD 5<|zJ 9 ((k:Int) <(xs.length:Int)) (λh1=>?_) λh1=>?_
 ·
  refine zD 6<|zxt xs k fb 1 mR nN λx10 KE=>zD 8<|js 14 (!decide (x10=0)) (λh2=>?_) (λh2=>?_)
  ·
   replace h2:=af (by simpa using h2);refine zD 7<|zX _ ⟨by rw[hI.2,aoD KE,cy (by simp_all)],rfl⟩
  replace h2:=ah (by simpa using h2);refine zD 3<|zW ((k:Int)+1)<|zD 2<|zY cU (k+1) ⟨by omega,by rw[hI.2,aoD KE,dN (by simp_all)]⟩ []
 refine zD 8<|zX _ ⟨by rw[hI.2,awj (by omega)],rfl⟩
def asv{x y:au}:iI zT 182 [.agg ⟨[zI x.n,zI x.l]⟩,.agg ⟨[zI y.n,zI y.l]⟩] ro (zI (NU x y)):=by
 refine zE<|zD 2<|jn λb2=>jn λb3=>jd 12 [1,0,1,0]<|zxp [zI x.n,zI y.n] (λhs=>ayu)<|zxp [zI x.l,zI y.l] (λhs=>ayu)<|zxo 10 λuk=>jn λAx=>eH uk [1,2]<|jp (vs:=[.slice (some ⟨Ax,0,none⟩) 2 2]) [0] [(Ax,.cells ⟨([(uf x.n y.n),(uf x.l y.l)].map eC).flatten⟩ 3 (0,0))] (λcK hs hZ=>gOr (eZ [(uf x.n y.n),(uf x.l y.l)] hZ.head (by intro p hp;rfl)) (by first|omega| (simp only[aM,zM];omega))) ?_;refine zD 3<|zX _ ⟨rfl,rfl⟩
def ayv{lo:Int}:iI zT 164 [zI n,zI lo,zI hi] ro (.bool (pE n lo hi)):=by
 refine zE<|zD 10<|jj 4 [(6,.bool false),(14,.bool ((decide (lo<=n))&&(decide (n<=hi))))] (λoX=>?_) (λhj=>?_);rotate_left;refine js 10 (decide (lo<=n)) (λh1=>?_) (λh1=>?_)
 ·
  have lF:=h1;replace lF:=ah lF;refine zD 4<|zxw 14 hj (zya h1)
 ·
  have lF:=h1;replace lF:=af lF;refine zD 4<|zxw 14 hj (zyb h1)
 refine zD 3<|zX _ ⟨rfl,rfl⟩
def aJF{x:au}(hx:p8 x):iI zT 166 [.agg ⟨[zI x.n,zI x.l]⟩] ro (.bool true):=by
 obtain⟨⟨hx1,hx2⟩,hx3,hx4⟩:=hx;refine zE<|zD 2<|jn λb1=>jd 6 [0]<|zxp [zI x.n,zI 1,zI 40] (λhs=>ayv)<|zD 1<|jj 4 [(2,.bool false),(10,.bool ((pE x.n 1 40)&&(pE x.l 0 4)))] (λoX=>?_) (λhj=>?_);rotate_left;refine js 6 (pE x.n 1 40) (λh1=>?_) (λh1=>?_)
 ·
  refine jd 2 [0]<|zxp [zI x.l,zI 0,zI 4] (λhs=>ayv)<|zD 1<|zxw 10 hj (zya h1)
 ·
  refine zD 4<|zxw 10 hj (zyb h1)
 refine zD 3<|zX (.bool ((pE x.n 1 40)&&(pE x.l 0 4))) ⟨by simp only[pE,Value.bool.injEq,av,aC];omega,rfl⟩
def asw{v:Value}{S:List (List au)}(hS:bH ro v S)(hO:cq S):iI zT 163 [.agg ⟨[v]⟩] ro (zI 0):=by
 obtain⟨ws,ht,dY⟩:=hS;obtain⟨fZ,xg,xe,eR,rfl,xf,ou,oh⟩:=ht;have Ar:=dY.len;have nI:=hO.two;refine zE<|zD 2<|jn λb1=>jd 10 [0]<|zJ 10 ((ws.length:Int)=0) (λh1=>?_) λh1=>?_
 ·
  exfalso;omega
 refine jd 10 [0]<|zJ 14 ((ws.length:Int)>3) (λh2=>?_) λh2=>?_
 ·
  exfalso;omega
 refine jd 11 [0]<|iz [1,1,1,0,1,0,0] [] (λ(zz:Nat)=>[(16,.slice fZ ws.length eR),(17,zI (ws.length:Int)),(18,zI (zz:Int))]) (λzz=>[zxc b1 24 [.slice fZ ws.length eR]]) (λzz=>zz<=ws.length) (λzz=>ws.length-zz) 0 (by omega) [0] ?_;rintro k hI K1 cU rest;refine zD 5<|zJ 19 ((k:Int) <(ws.length:Int)) (λh3=>?_) λh3=>?_
 ·
  refine zD 6<|zxs ws k eR 1 ou (λtP tZ=>?_);obtain⟨l21,aHP,h21⟩:=dY.get tZ;obtain aST:=hO.len _ (zL aHP);obtain beE:=hO.ok _ (zL aHP);obtain beA:=hO.Sk _ (zL aHP);obtain⟨aPq,bpT,bpR,av5,rfl,bpS,aPp,aPo⟩:=h21;refine jl 0 (oh _ _ tZ)<|zD 9<|zJ 24 ((l21.length:Int)>8) (λh4=>?_) λh4=>?_
  ·
   exfalso;omega
  refine zD 9<|iz [1,1,1,0,1,0,0,1,1,0,0,1,1,1,0,0] [K1] (λ(zz:Nat)=>[(4,.slice aPq l21.length av5),(16,.slice fZ ws.length eR),(17,zI (ws.length:Int)),(18,zI (k:Int)),(25,.slice aPq l21.length av5),(26,zI (l21.length:Int)),(27,zI (zz:Int))]) (λzz=>[zxc b1 24 [.slice fZ ws.length eR]]) (λzz=>zz<=l21.length) (λzz=>l21.length-zz) 0 (by omega) [0] ?_;rintro i hJ K2 kU rest;refine zD 5<|zJ 28 ((i:Int) <(l21.length:Int)) (λh5=>?_) λh5=>?_
  ·
   refine zD 7<|zxt l21 i av5 2 aPp aPo λFK tv=>jn λb6=>jd 7 [0,0]<|zxp [.agg ⟨[zI FK.n,zI FK.l]⟩] (λhs=>(aJF (x:=FK) (beE _ (zL tv))))<|zD 9<|js 2 (decide ((i:Int)>0)) (λh6=>?_) (λh6=>?_)
   ·
    have Ho:=h6;replace Ho:=ah Ho;refine zD 2<|zW ((i:Int)-1) ?_;obtain⟨x41,Wt⟩:=zG l21 (((i:Int)-1).toNat);refine Yj ((i:Int)-1) av5 2 aPp Wt (by omega)<|jl 0 (aPo _ _ Wt)<|jd 1 [0]<|zxp [.agg ⟨[zI x41.n,zI x41.l]⟩,.agg ⟨[zI FK.n,zI FK.l]⟩] (λhs=>(asv (x:=x41) (y:=FK)))<|zD 3<|zJ 46 ((NU x41 FK)>=0) (λh7=>?_) λh7=>?_
    ·
     exfalso;have:=ay6 (wD beA (show ((i:Int)-1).toNat <i by omega) Wt tv);simp_all;omega
    refine zD 3<|zW ((i:Int)+1)<|zD 2<|zY kU (i+1) (by omega) [1]
   have Ho:=h6;replace Ho:=af Ho;refine zD 13<|zW ((i:Int)+1)<|zD 2<|zY kU (i+1) (by omega) [1]
  refine zD 3<|zW ((k:Int)+1)<|zD 2<|zY cU (k+1) (by omega) [0]
 refine zD 7<|zX _ ⟨rfl,rfl⟩
abbrev mw(x:ak):Value:= .agg ⟨bO x⟩
instance:DecidableEq ak:=λx y=>match x,y with
 | ⟨a,b,c⟩,⟨d,e,f⟩=>if h:a=d/\b=e/\c=f then isTrue (by obtain⟨rfl,rfl,rfl⟩:=h;rfl) else isFalse λk=>h (by cases k;exact⟨rfl,rfl,rfl⟩)
def eV(s:Int)(x:au):ak:=⟨s,x.n,x.l⟩
def Dl(S:List (List au)):Nat->List ak
 |0=>[]
 |k+1=>Dl S k++(match S[k]? with
  |some l=>l.map (eV k)
  |none=>[])
def aH(S:List (List au)):List ak:=Dl S S.length
theorem Qg{S:List (List au)}{k:Nat}{l:List au}(h:S[k]?=some l):Dl S (k+1)=Dl S k++l.map (eV k):=by grind [Dl]
theorem vn{S:List (List au)}{x:ak}:∀ {k:Nat},x∈Dl S k↔∃j l p,j <k/\S[j]?=some l/\p∈l/\x=eV j p
 |0=>by simp[Dl]
 |k+1=>by
  simp only[Dl,bJ,vn]
  grind
theorem B9{S:List (List au)}{l:List au}{p:au}(h1:S[j]?=some l) (h2:p∈l):eV j p∈aH S:=vn.2 ⟨j,l,p,(aA.1 h1).1,h1,h2,rfl⟩
theorem B5{S:List (List au)}(hO:cq S):∀k,(Dl S k).Nodup
 |0=>FI
 |k+1=>by
  simp only[Dl];refine eo.2 ⟨B5 hO k,?_,λx hx y hy e=>?_⟩
  .split
   .rename_i l hl;refine Mh.2 ((hO.Sk l (zL hl)).imp λ{a b} h e=>?_);simp only[eV,ak.mk.injEq] at e;rcases h with h|h<;>omega
   exact FI
  subst e;obtain⟨j,l,p,h1,_,_,rfl⟩:=vn.1 hx
  grind [eV,ak.mk.injEq]
theorem Fe{S:List (List au)}(hO:cq S):∀k,(Dl S k).length<=6*k
 |0=>by simp[Dl]
 |k+1=>by
  have:=Fe hO k;simp only[Dl];split
  .rename_i l hl;have:=hO.len l (zL hl)
   grind
  simp;omega
theorem Qq{S:List (List au)}(hO:cq S):(aH S).length<=12:=by
 have:=Fe hO S.length;have:=hO.two
 grind [aH]
def aUX(a b:ak):EqD zT 10000 41 (mw a) (mw b) (decide (a=b)):=by
 have h:=(Cg (q6 Tryz.typeInfo41 Tryz.underlying41 rfl rfl rfl rfl rfl rfl) Tryz.stoodInHeld41 (.cons (by decide) (oI rN rfl) (oI rN rfl) (tE rN _ _) (.cons (by decide) (BP (q6 Tryz.typeInfo39 Tryz.underlying39 rfl rfl rfl rfl rfl rfl) rfl) (BP (q6 Tryz.typeInfo39 Tryz.underlying39 rfl rfl rfl rfl rfl rfl) rfl) (abM _ _ _ _ 9997) .nil)):EqD zT 10000 41 (mw a) (mw b) _);have e:(a.h==b.h&&((a.n==b.n&&(a.l==b.l&&true))&&true))=decide (a=b):=by
  rcases a with ⟨x,y,z⟩;rcases b with ⟨u,v,w⟩
  rw[GD];simp
 rwa[e] at h
def biY(a:ak):CkD zT 10000 41 (mw a):=
 ab1 (q6 Tryz.typeInfo41 Tryz.underlying41 rfl rfl rfl rfl rfl rfl) (.cons (by decide) (oI rN rfl) (M6 rN _) (.cons (by decide) (BP (q6 Tryz.typeInfo39 Tryz.underlying39 rfl rfl rfl rfl rfl rfl) rfl) (ab1 (dep:=9998) (q6 Tryz.typeInfo39 Tryz.underlying39 rfl rfl rfl rfl rfl rfl) (.cons (by decide) (oI rN rfl) (M6 rN _) (.cons (by decide) (oI rN rfl) (M6 rN _) .nil))) .nil))
def wV:X4 zT 41 mw:=apO (q6 Tryz.typeInfo41 Tryz.underlying41 rfl rfl rfl rfl rfl rfl) (λk=>⟨_,rfl⟩) biY aUX (λk=>by simp[Instr.sameBits])
def MV(Z:Cells)(F:List (ak×Value))(g:ak->List ak):Prop:=∀bU,Knows bU Z->∀x∈F,dk bU x.2 3 bO (g x.1)
def tY(x:ak):List ak:=[x]
theorem QT[DecidableEq κ]{k:κ}:∀ {F:List (κ×Value)} {i:Nat},k∈F.map (·.1)->∃j v,ub k F i=some (j,v)
 | [],_,h=>by cases h
 |x::F,i,h=>by
  simp only[ub];split
  .simp
  refine QT ?_
  grind
theorem Od[DecidableEq κ]{k:κ}{F:List (κ×Value)}(h:k∈F.map (·.1)):∃v,lkM k F=some v/\(k,v)∈F:=by
 obtain⟨j,v,h1⟩:=QT (i:=0) h;exact⟨v,by grind [lkM],zL (tC h1).2⟩
theorem HW[DecidableEq κ]{k:κ}{v:Value}{F:List (κ×Value)}(h:k∉F.map (·.1)):iS k v F=F++[(k,v)]:=by
 have:ub k F 0=none:=by
  cases hf:ub k F 0 with
  |none=>rfl
  |some y=>exact absurd (cY (zL (tC hf).2)) h
 grind [iS]
def OO[DecidableEq κ]{k:κ}{v:Value}{F:List (κ×Value)}(h:k∈F.map (·.1))(hn:(F.map (·.1)).Nodup):(iS k v F).map (·.1)=F.map (·.1)/\∀x∈iS k v F,x=(k,v)\/(x∈F/\x.1≠k):=by
 obtain⟨j,u,h1⟩:=QT (i:=0) h;have h2:=(tC h1).2;rw[acA] at h2;obtain⟨hj,WA⟩:=aA.1 h2;simp only[iS,h1,H5];refine⟨?_,λx hx=>?_⟩
 .rw[Dh];refine pI λi=>?_;rw[List.getElem?_set];split
  .rename_i hi;subst hi;simp[h2,hj,WA]
  rfl
 obtain⟨i,hi⟩:=dV hx;rw[List.getElem?_set] at hi;split at hi
 .cases hi;exact .inl rfl
 rename_i Og;refine .inr ⟨zL hi,λe=>Og ?_⟩;obtain⟨hi1,Sb⟩:=aA.1 hi;exact(RS (xs:=F.map (·.1)) (h₀:=by simpa using hj) (h₁:=by simpa using hi1) hn).1 (by simp[WA,Sb,e])
theorem MV.set{F:List (ak×Value)}{g:ak->List ak}(h:MV Z F g){k:ak}{y:List ak}{v:Value}(hk:k∈F.map (·.1))(hn:(F.map (·.1)).Nodup)(hv:∀bU,Knows bU Z2->dk bU v 3 bO y):MV (Z++Z2) (iS k v F) (λx=>if x=k then y else g x):=λbU hr x hx=>by
 rcases(OO hk hn).2 x hx with rfl| ⟨h1,h2⟩
 .simp;exact hv bU hr.right
 simp_all;exact h bU hr.left x h1
theorem MV.add{F:List (ak×Value)}{g:ak->List ak}(h:MV Z F g){k:ak}{v:Value}(hv:∀bU,Knows bU Z2->dk bU v 3 bO (g k)):MV (Z++Z2) (F++[(k,v)]) g:=λbU hr x hx=>by
 rcases bJ.1 hx with h1|h1
 .exact h bU hr.left x h1
 rw[aU] at h1;subst h1;exact hv bU hr.right
def aUL{v:Value}(hl:dk ro v 1 eC xs)(hn:xs.length<=1000):eT zT 171 [v] ro [] (λr Y=>bI r 1 3 eC xs Y):=by
 obtain⟨fO,rh,q9,fb,rfl,sV,mR,nN⟩:=hl;refine zE<|zD 8<|jsn 45 (a:=fO) (l:=xs.length) (c:=fb)<|zD 1<|js 4 (fO.isNone) (λh1=>?_) (λh1=>?_)
 ·
  refine zD 6<|zX _ (by rw[zf mR (by assumption)];exact bI.nil _ _ _)
 refine zD 4<|jn λb5=>zD 1<|zxq eC b5 3 0 fb mR nN λva7 vc7 L7 yl=>zD 3<|zR _ [] [0] L7 yl
def biz{v:Value}{xs:List au}(hl:dk ro v 2 cv xs)(hn:xs.length<=1000):eT zT 122 [v] ro [] (λr Y=>bI r 2 39 cv xs Y):=by
 obtain⟨fO,rh,q9,fb,rfl,sV,mR,nN⟩:=hl;refine zE<|zD 8<|jsn 98 (a:=fO) (l:=xs.length) (c:=fb)<|zD 1<|js 4 (fO.isNone) (λh1=>?_) (λh1=>?_)
 ·
  refine zD 6<|zX _ (by rw[zf mR (by assumption)];exact bI.nil _ _ _)
 refine zD 4<|jn λb5=>zD 1<|zxq cv b5 39 0 fb mR nN λva7 vc7 L7 yl=>zD 3<|zR _ [] [0] L7 yl
def biA{v:Value}{xs:List ak}(hl:dk ro v 3 bO xs)(hn:xs.length<=1000):eT zT 134 [v] ro [] (λr Y=>bI r 3 41 bO xs Y):=by
 obtain⟨fO,rh,q9,fb,rfl,sV,mR,nN⟩:=hl;refine zE<|zD 8<|jsn 70 (a:=fO) (l:=xs.length) (c:=fb)<|zD 1<|js 4 (fO.isNone) (λh1=>?_) (λh1=>?_)
 ·
  refine zD 6<|zX _ (by rw[zf mR (by assumption)];exact bI.nil _ _ _)
 refine zD 4<|jn λb5=>zD 1<|zxq bO b5 41 0 fb mR nN λva7 vc7 L7 yl=>zD 3<|zR _ [] [0] L7 yl
def ayt{v:Value}{S:List (List au)}(hS:bH ro v S)(hO:cq S):eT zT 174 [.agg ⟨[v]⟩] ro [] (λr Y=>∃a n c,r= .agg ⟨[.slice a n c]⟩/\∀bU,Knows bU Y->bH bU (.slice a n c) S):=by
 obtain⟨ws,ht,dY⟩:=hS;obtain⟨fZ,xg,xe,eR,rfl,xf,ou,oh⟩:=ht;have Ar:=dY.len;have nI:=hO.two;refine zE<|zD 2<|jn λb1=>jn λb2=>zD 4<|jn λb3=>jd 11 [0,2]<|uI<|uI<|iz [1,1,0,1,0,0] [] (λ(zz:Nat×Value×Cells×(List Value)×Cells)=>[(2,zP b2),(3,zP b3),(8,.slice fZ ws.length eR),(9,zI (ws.length:Int)),(10,zI (zz.1:Int))]) (λzz=>[zxc b3 24 [zz.2.1],.l zz.2.2.1,.l zz.2.2.2.2,zxc b2 24 [zS],zxc b1 24 [.slice fZ ws.length eR]]) (λzz=>(zz.1<=ws.length/\zz.2.2.2.1.length=zz.1)/\bI zz.2.1 1 98 qa zz.2.2.2.1 zz.2.2.1/\∀bU,Knows bU zz.2.2.2.2->kz (λw l=>dk bU w 2 cv l) zz.2.2.2.1 (S.take zz.1)) (λzz=>ws.length-zz.1) (⟨0,zS,[],[],[]⟩) ⟨⟨by dsimp only;omega,rfl⟩,bI.nil _ _ _,λ_ _=> .nil⟩ [2,1,0,3,4] ?_;rintro⟨k,vO,LO,es,Z⟩ hI K1 cU rest;dsimp only at hI;refine zD 5<|zJ 11 ((k:Int) <(ws.length:Int)) (λh1=>?_) λh1=>?_
 ·
  refine zD 6<|zxs ws k eR 1 ou (λAH uL=>?_);obtain⟨Dj,Ca,C9⟩:=dY.get uL;obtain bfM:=hO.len _ (zL Ca);obtain⟨Ic,adW,adU,GR,rfl,adV,ZC,ZB⟩:=C9;refine jl 0 (oh _ _ uL)<|jd 6 [0]<|zxo 3 λC7=>jc (vs:=[.slice Ic Dj.length GR]) [] (biz (show dk _ _ _ _ _ from ⟨Ic,adW,adU,GR,rfl,adV,ZC,ZB⟩) (by first|omega| (simp only[List.length_set,zM];omega))) ?_;rintro v17 L17 aqH;obtain⟨No,Nn,qo⟩:=aqH.form;subst qo;refine eH C7 (zN 1 5)<|zxo 4 λtx=>jn λb18=>eH tx (zN 1 6)<|zxo 5 λtw=>gB (sz:=1) (ps:=es) (qs:=[((.slice No (Dj).length Nn):Value)]) (enc:=qa) (w:= .slice (some ⟨b18,0,none⟩) 1 1) [3] [0] [(b18,.cells ⟨([((.slice No (Dj).length Nn):Value)].map qa).flatten⟩ 98 (0,0))] (hI.2.1) (λs _ hZ=>dg [((.slice No (Dj).length Nn):Value)] (hZ _ (.head _)) (by intro p hp;rfl)) (by intro p hp;rw[List.mem_singleton] at hp;subst hp;exact aG rfl) (by simp<;>omega) (λv19 L19 aqw=>?_);obtain⟨baw,baf,bgH⟩:=aqw.form;subst bgH;refine ee tw []<|zD 1<|zxo 7 λC6=>jd 1 [3]<|kA C6<|zD 2<|zW ((k:Int)+1)<|zD 2<|zV cU (⟨k+1,(.slice baw ((es++[((.slice No (Dj).length Nn):Value)])).length baf),L19,(es++[((.slice No (Dj).length Nn):Value)]),L17++Z⟩) ⟨⟨by dsimp only;omega,by simp only[zM];omega⟩,aqw,λbU hk=>Br (hI.2.2 bU hk.right) Ca (aqH.ju hk.left)⟩ [[3],[0],[2,4],[5],[6]]
 refine jd 5 [0] ?_;obtain⟨va6,vc6,he6⟩:=hI.2.1.form;subst he6;refine jd 3 [3]<|zR _ [3] [1,2] _ ⟨_,_,_,rfl,λbU hk=>⟨es,hI.2.1.ju hk.left,by have:=hI.2.2 bU hk.right;rwa[bF (by omega)] at this⟩⟩
def ah4{v:Value}{S:List (List au)}(hS:bH ro v S)(hO:cq S):eT zT 165 [.agg ⟨[v]⟩] ro [] (λr Y=>bI r 3 41 bO (aH S) Y):=by
 obtain⟨ws,ht,dY⟩:=hS;obtain⟨fZ,xg,xe,eR,rfl,xf,ou,oh⟩:=ht;have Ar:=dY.len;have nI:=hO.two;refine zE<|zD 2<|jn λb1=>jd 15 [0]<|uI<|iz [1,1,0,1,0,0] [] (λ(zz:Nat×Value×Cells)=>[(2,zS),(3,zz.2.1),(9,.slice fZ ws.length eR),(10,zI (ws.length:Int)),(11,zI (zz.1:Int))]) (λzz=>[.l zz.2.2,zxc b1 24 [.slice fZ ws.length eR]]) (λzz=>zz.1<=ws.length/\bI zz.2.1 3 41 bO (Dl S zz.1) zz.2.2) (λzz=>ws.length-zz.1) (⟨0,zS,[]⟩) ⟨by dsimp only;omega,bI.nil _ _ _⟩ [0,1] ?_;rintro⟨k,vO,LO⟩ hI K1 cU rest;dsimp only at hI;refine zD 5<|zJ 12 ((k:Int) <(ws.length:Int)) (λh1=>?_) λh1=>?_
 ·
  refine zD 7<|zxs ws k eR 1 ou (λvt iD=>?_);obtain⟨Di,KN,NN⟩:=dY.get iD;obtain aHI:=hO.len _ (zL KN);obtain⟨Px,aod,aob,Ib,rfl,aoc,ZA,Zz⟩:=NN;refine jl 0 (oh _ _ iD)<|zD 10<|iz [1,1,0,1,0,0,1,1,0,0,1,1,0,0] [K1] (λ(zz:Nat×Value×Cells)=>[(2,zS),(3,zz.2.1),(4,zI (k:Int)),(9,.slice fZ ws.length eR),(10,zI (ws.length:Int)),(11,zI (k:Int)),(16,.slice Px Di.length Ib),(17,zI (Di.length:Int)),(18,zI (zz.1:Int))]) (λzz=>[.l zz.2.2,zxc b1 24 [.slice fZ ws.length eR]]) (λzz=>zz.1<=Di.length/\bI zz.2.1 3 41 bO (Dl S k++(Di.take zz.1).map (eV k)) zz.2.2) (λzz=>Di.length-zz.1) (⟨0,vO,LO⟩) ⟨by dsimp only;omega,by simpa using hI.2⟩ [0,1] ?_;rintro⟨i,vO,LO⟩ hJ K2 kU rest;dsimp only at hJ;refine zD 5<|zJ 19 ((i:Int) <(Di.length:Int)) (λh2=>?_) λh2=>?_
  ·
   refine zD 6<|zxt Di i Ib 2 ZA Zz λtP tZ=>jn λb7=>jd 7 [0,0]<|jn λb26=>zxl bO b26 (⟨(k:Int),tP.n,tP.l⟩:ak) 2 0 (hJ.2) (λaDP aDI L27 Qn=>?_) (hb:=by have:=Fe hO k;simp only[aL,dE,cH,aJ,aO];omega);refine zD 3<|zW ((i:Int)+1)<|zD 2<|zF kU (⟨i+1,(.slice aDP (((Dl S k++(Di.take i).map (eV k))++[(⟨(k:Int),tP.n,tP.l⟩:ak)])).length aDI),L27⟩) (by rw[c8 tZ,cw,<-bx];exact Qn) [0,3]
  refine zD 3<|zW ((k:Int)+1)<|zD 2<|zF cU (⟨k+1,vO,LO⟩) (by rw[Qg KN];have:=hJ.2;rwa[bF (by omega)] at this) [0,1]
 refine zD 8<|zR _ [] [0] LO (by have:=hI.2;rwa[show k=S.length by omega] at this)
theorem BD{l:List α}{k:Nat}{x:α}(hn:l.Nodup)(h:l[k]?=some x):x∉l.take k:=by grind [aA,dV,cH,List.getElem?_take_of_lt,RS]
def mM(n:Int):Bool:= !decide (Int.tmod n 2=0)
def Da(n:Int):Bool:=decide (Int.tmod n 2=0)
theorem sF{p:α->Bool}{l:List α}{x:α}(h:l[i]?=some x):(l.take (i+1)).filter p=(l.take i).filter p++bif p x then [x] else []:=by
 rw[c8 h,List.filter_append]
 grind
def pW(l:List au):List (List au):=[l.filter λx=>mM x.n,l.filter λx=>Da x.n]
theorem abh{l h:List au}{x:au}(hh:h∈pW l)(hx:x∈h):x∈l:=by
 grind [pW]
theorem arl{l h:List au}(hh:h∈pW l):h.length<=l.length:=by
 grind [pW]
def H6(s:Int)(h:List au):List (ak×List ak):=(h.zip h.reverse).map λp=>(eV s p.1,[eV s p.2])
def Mo(s:Int)(l:List au):List (ak×List ak):=(pW l).flatMap (H6 s)
def Gf(s:Int)(l:List au):List (ak×List ak):=l.map λx=>(eV s x,[⟨s,if mM x.n=true then x.n+1 else x.n-1,x.l⟩])
def gW(l:List au):Int:=match l[l.length-1]? with
 |some y=>y.n+Int.tmod y.n 2
 |none=>0
def Ix(s o:Int)(l:List au)(r:Int):List (ak×List ak):=l.map λx=>(eV s x,[⟨o,x.n+r,x.l⟩])
def gU(u:List (ak×List ak))(x:ak):List ak:=u.foldl (λy p=>if x=p.1 then p.2 else y) [x]
theorem ah2(u:List (ak×List ak))(a:ak)(b:List ak):gU (u++[(a,b)])=λx=>if x=a then b else gU u x:=by
 grind [gU]
theorem agN{s:Int}{h:List au}{x y:au}(hx:h[i]?=some x) (hy:h[(((h.length:Int)-1)-(i:Int)).toNat]?=some y):(H6 s h)[i]?=some (eV s x,[eV s y]):=by
 have hi:=(aA.1 hx).1;have h2:h.reverse[i]?=some y:=by rw[List.getElem?_reverse hi,<-hy];congr 1;omega
 have:=(List.getElem?_zip_eq_some (z:=(x,y))).2 ⟨hx,h2⟩;simp only[H6,gi,this];rfl
theorem anI(s:Int)(h:List au):(H6 s h).length=h.length:=by simp[H6]
theorem apj{f:α->β}{l:List α}{x:α}(h:l[i]?=some x):(l.map f)[i]?=some (f x):=by grind
theorem Fp{f:α->List β}{l:List α}{x:α}(h:l[i]?=some x):(l.take (i+1)).flatMap f=(l.take i).flatMap f++f x:=by rw[c8 h,iF,List.flatMap_singleton]
theorem MV.upd{S:List (List au)}(hO:cq S){F:List (ak×Value)}{u:List (ak×List ak)}{s:Nat}{l:List au}{x:au}{y:ak}{b:Nat}(h:MV Z F (gU u))(hk:F.map (·.1)=aH S)(hl:S[s]?=some l) (hx:x∈l):
 MV (Z++[(b,.cells ⟨bO y⟩ T (0,0))]) (iS (eV s x) (.slice (some ⟨b,0,none⟩) 1 1) F) (gU (u++[(eV s x,[y])]))/\(iS (eV s x) (.slice (some ⟨b,0,none⟩) 1 1) F).map (·.1)=aH S:=by
 have hm:eV s x∈F.map (·.1):=by rw[hk];exact B9 hl hx
 have hn:(F.map (·.1)).Nodup:=by rw[hk];exact B5 hO _
 rw[ah2];exact⟨h.set hm hn λbU hk=>eZ [y] (hk _ (.head _)) (λ_ _=>rfl),(OO hm hn).1.trans hk⟩
def Zc{S:List (List au)}(hO:cq S){F:List (ak×Value)}{k:Nat}{x:ak}{b:Nat}(h:MV Z F tY)(hk:F.map (·.1)=(aH S).take k)(hx:(aH S)[k]?=some x):
 MV (Z++[(b,.cells ⟨bO x⟩ T (0,0))]) (iS x (.slice (some ⟨b,0,none⟩) 1 1) F) tY/\(iS x (.slice (some ⟨b,0,none⟩) 1 1) F).map (·.1)=(aH S).take (k+1):=by
 have:x∉F.map (·.1):=by rw[hk];exact BD (B5 hO _) hx
 rw[HW this];exact⟨h.add λbU hk=>eZ [x] (hk _ (.head _)) (λ_ _=>rfl),by rw[cw,hk,c8 hx];rfl⟩
def MX{v:Value}{S:List (List au)}(hS:bH ro v S)(hO:cq S):eT zT 175 [.agg ⟨[v]⟩] ro [] (λr Y=>∃rm F LM Z,r= .map (some rm)/\Y=LM++Z/\g9 rm mw F LM/\F.map (·.1)=aH S/\MV Z F tY):=by
 have nP:=hS;obtain⟨ws,ht,dY⟩:=hS;obtain⟨fZ,xg,xe,eR,rfl,xf,ou,oh⟩:=ht;have Ar:=dY.len;have nI:=hO.two;have hhl:=Qq hO;refine zE<|zD 2<|jn λb1=>zD 4<|jmk mw λr6 L6 hm6=>jd 6 [1]<|jc (vs:=[.agg ⟨[.slice fZ ws.length eR]⟩]) [] (ah4 nP hO) ?_;rintro v8 L8 ho8;refine jol ho8<|zD 1<|jf [0] L8 (λAD fq iu=>?_);have hzh:=ho8.ju iu;obtain⟨bbW,bpa,bo8,aOJ,rfl,bo9,bbV,bbU⟩:=hzh;refine zD 2<|uI<|iz [1,1,0,1,0,0] [] (λ(zz:Nat×(List (ak×Value))×Cells×Cells)=>[(2,(.map none)),(3,(.map (some r6))),(8,.slice bbW ((aH S).length) aOJ),(9,zI ((aH S).length:Int)),(10,zI (zz.1:Int))]) (λ(zz:Nat×(List (ak×Value))×Cells×Cells)=>[.l zz.2.2.1,.l zz.2.2.2,zxc b1 24 [.slice fZ ws.length eR]]) (λ(zz:Nat×(List (ak×Value))×Cells×Cells)=>zz.1<=(aH S).length/\g9 r6 mw zz.2.1 zz.2.2.1/\zz.2.1.map (·.1)=(aH S).take zz.1/\MV zz.2.2.2 zz.2.1 tY) (λ(zz:Nat×(List (ak×Value))×Cells×Cells)=>(aH S).length-zz.1) (⟨0,[],L6,[]⟩) ⟨by dsimp only;omega,hm6,rfl,λ_ _ _ h=>(by cases h)⟩ [1,0,2] ?_;rintro⟨k,F,LM,Z⟩ hI K1 cU rest;dsimp only at hI;refine zD 5<|zJ 11 ((k:Int) <((aH S).length:Int)) (λh4=>?_) λh4=>?_
 ·
  refine zD 6<|zxt (aH S) k aOJ 3 bbV bbU λAH uL=>jn λb5=>jd 6 [0,0,0]<|jn λb17=>We (kv:=mw) (F:=F) (r:=r6) (K:=41) 2 AH (.slice (some ⟨b17,0,none⟩) 1 1) wV hI.2.1 λLm5 hm5=>zD 2<|zW ((k:Int)+1)<|zD 2<|zV cU (⟨k+1,_,Lm5,Z++[(b17,.cells ⟨[zI AH.h,zI AH.n,zI AH.l]⟩ 41 (0,0))]⟩) ⟨by dsimp only;omega,hm5,(Zc (T:=41) hO hI.2.2.2 hI.2.2.1 uL).2,(Zc (T:=41) hO hI.2.2.2 hI.2.2.1 uL).1⟩ [[0],[3,1],[4]]
 refine zD 8<|cd q0.a ((.map (some r6))) [] [0,1] (LM++Z) fq ⟨_,_,rfl,rfl,_,F,LM,Z,rfl,rfl,hI.2.1,by rw[hI.2.2.1,bF (by omega)],hI.2.2.2⟩
def gAt{h:Int}:iI zT 298 [zI h,zI n,zI l] ro (.agg ⟨[zI h,zI n,zI l]⟩):=by
 refine zE<|zD 2<|jn λb6=>jd 11 [0]<|zR _ [0] [] [] ⟨rfl,rfl⟩
def aUB{x:au}:iI zT 296 [.agg ⟨[zI x.n,zI x.l]⟩] ro (.bool (mM x.n)):=by
 refine zE<|zD 2<|jn λb1=>jd 11 [0]<|zX _ ⟨rfl,rfl⟩
def abw{v:Value}{l:List au}(hl:dk ro v 2 cv l)(hn:l.length<=6):eT zT 295 [v,.func (.func 296) ⟨[]⟩ ⟨[]⟩] ro [] (λr Y=>bI r 2 39 cv (l.filter λx=>mM x.n) Y):=by
 obtain⟨fO,rh,q9,fb,rfl,sV,mR,nN⟩:=hl;refine zE<|zD 16<|uI<|iz [1,1,0,1,0,0] [] (λ(zz:Nat×Value×Cells)=>[(1,.func (.func 296) ⟨[]⟩ ⟨[]⟩),(4,zS),(5,zz.2.1),(8,.slice fO l.length fb),(9,zI (l.length:Int)),(10,zI (zz.1:Int))]) (λzz=>[.l zz.2.2]) (λzz=>zz.1<=l.length/\bI zz.2.1 2 39 cv ((l.take zz.1).filter λx=>mM x.n) zz.2.2) (λzz=>l.length-zz.1) (⟨0,zS,[]⟩) ⟨by dsimp only;omega,bI.nil _ _ _⟩ [0] ?_;rintro⟨k,vO,LO⟩ hI K1 cU rest;dsimp only at hI;refine zD 5<|zJ 11 ((k:Int) <(l.length:Int)) (λh1=>?_) λh1=>?_
 ·
  refine zD 6<|zxt l k fb 2 mR nN λAH uL=>jn λb7=>jd 6 [0,0]<|zxp [.agg ⟨[zI AH.n,zI AH.l]⟩] (λhs=>(aUB (x:=AH)))<|zD 1<|js 16 (mM AH.n) (λh2=>?_) (λh2=>?_)
  ·
   refine jd 4 [0]<|jn λEI=>zxl cv EI (⟨AH.n,AH.l⟩:au) 2 0 (hI.2) (λJU JO L20 B7=>?_) (hb:=by have:=Az (λx:au=>mM x.n) (l.take k);rw[cH] at this;simp only[aJ,aO];omega);refine zD 3<|zW ((k:Int)+1)<|zD 2<|zF cU (⟨k+1,(.slice JU ((((l.take k).filter λx=>mM x.n)++[(⟨AH.n,AH.l⟩:au)])).length JO),L20⟩) (by rw[sF uL,show mM AH.n=true from (by assumption)];exact B7) [0]
  refine zD 3<|zW ((k:Int)+1)<|zD 2<|zF cU (⟨k+1,vO,LO⟩) (by rw[sF uL,show mM AH.n=false from (by assumption)];simpa using hI.2) [1]
 refine zD 8<|zR _ [] [0] LO (by have:=hI.2;rwa[bF (by omega)] at this)
def aUH{x:au}:iI zT 297 [.agg ⟨[zI x.n,zI x.l]⟩] ro (.bool (Da x.n)):=by
 refine zE<|zD 2<|jn λb1=>jd 11 [0]<|zX _ ⟨rfl,rfl⟩
def abv{v:Value}{l:List au}(hl:dk ro v 2 cv l)(hn:l.length<=6):eT zT 295 [v,.func (.func 297) ⟨[]⟩ ⟨[]⟩] ro [] (λr Y=>bI r 2 39 cv (l.filter λx=>Da x.n) Y):=by
 obtain⟨fO,rh,q9,fb,rfl,sV,mR,nN⟩:=hl;refine zE<|zD 16<|uI<|iz [1,1,0,1,0,0] [] (λ(zz:Nat×Value×Cells)=>[(1,.func (.func 297) ⟨[]⟩ ⟨[]⟩),(4,zS),(5,zz.2.1),(8,.slice fO l.length fb),(9,zI (l.length:Int)),(10,zI (zz.1:Int))]) (λzz=>[.l zz.2.2]) (λzz=>zz.1<=l.length/\bI zz.2.1 2 39 cv ((l.take zz.1).filter λx=>Da x.n) zz.2.2) (λzz=>l.length-zz.1) (⟨0,zS,[]⟩) ⟨by dsimp only;omega,bI.nil _ _ _⟩ [0] ?_;rintro⟨k,vO,LO⟩ hI K1 cU rest;dsimp only at hI;refine zD 5<|zJ 11 ((k:Int) <(l.length:Int)) (λh1=>?_) λh1=>?_
 ·
  refine zD 6<|zxt l k fb 2 mR nN λAH uL=>jn λb7=>jd 6 [0,0]<|zxp [.agg ⟨[zI AH.n,zI AH.l]⟩] (λhs=>(aUH (x:=AH)))<|zD 1<|js 16 (Da AH.n) (λh2=>?_) (λh2=>?_)
  ·
   refine jd 4 [0]<|jn λEI=>zxl cv EI (⟨AH.n,AH.l⟩:au) 2 0 (hI.2) (λJU JO L20 B7=>?_) (hb:=by have:=Az (λx:au=>Da x.n) (l.take k);rw[cH] at this;simp only[aJ,aO];omega);refine zD 3<|zW ((k:Int)+1)<|zD 2<|zF cU (⟨k+1,(.slice JU ((((l.take k).filter λx=>Da x.n)++[(⟨AH.n,AH.l⟩:au)])).length JO),L20⟩) (by rw[sF uL,show Da AH.n=true from (by assumption)];exact B7) [0]
  refine zD 3<|zW ((k:Int)+1)<|zD 2<|zF cU (⟨k+1,vO,LO⟩) (by rw[sF uL,show Da AH.n=false from (by assumption)];simpa using hI.2) [1]
 refine zD 8<|zR _ [] [0] LO (by have:=hI.2;rwa[bF (by omega)] at this)
def ayq{v:Value}{S:List (List au)}{s:Nat}{l:List au}{c2 c3 c4:Int}{F:List (ak×Value)}(hS:bH ro v S)(hO:cq S)(hl:S[s]?=some l) (hm:g9 rm mw F LM) (hk:F.map (·.1)=aH S) (hM:MV Z F tY):eT zT 260 [.agg ⟨[v]⟩,.agg ⟨[zI ck,zI (s:Int),zI c2,zI c3,zI c4,zI c5,zI c6]⟩,(.map (some rm))] ro (LM++Z) (λr Y=>∃F' L' Z',r= zI 0/\Y=L'++Z'/\g9 rm mw F' L'/\F'.map (·.1)=aH S/\MV Z' F' (gU (Mo (s:Int) l))):=by
 obtain⟨ws,ht,dY⟩:=hS;obtain⟨fZ,xg,xe,eR,rfl,xf,ou,oh⟩:=ht;have Ar:=dY.len;have nI:=hO.two;have Bx:=(aA.1 hl).1;have Dm:=zL hl;have Ee:=hO.len _ Dm;refine zC [.l LM,.l Z]<|zD 2<|jn λb3=>jn λb4=>zD 4<|Yk [1,0,1] [] (λ(zz:Nat×Value×Value×Cells×Cells)=>[(2,(.map (some rm))),(4,zP b4),(6,zI 0),(25,.slice (some ⟨zz.1,0,none⟩) 2 2),(26,zI 2),(27,zI 0)]) (λzz=>[.b zz.1 (.cells ⟨[zz.2.1,zz.2.2.1]⟩ 98 (0,0)),.l zz.2.2.2.1,.l zz.2.2.2.2,.l LM,.l Z,zxc b4 100 [zI ck,zI (s:Int),zI c2,zI c3,zI c4,zI c5,zI c6],zxc b3 24 [.slice fZ ws.length eR]]) (λzz=>bI zz.2.1 2 39 cv (l.filter λx=>mM x.n) zz.2.2.2.1/\bI zz.2.2.1 2 39 cv (l.filter λx=>Da x.n) zz.2.2.2.2) ?_ (λK1 cU=>?_)
 ·
  rintro⟨b25,v1,v2,L1,L2⟩ hC rest;dsimp only at hC;refine jf [0,1,2] ((b25,.cells ⟨[v1,v2]⟩ 98 (0,0))::(L1++L2)) (λAD fq iu=>?_);have hhv:=eZ (enc:=qa) (T:=98) [v1,v2] (iu _ (.head _)) (λ_ _=>rfl);have aTd:kz (λw l=>dk AD w 2 cv l) [v1,v2] (pW l):= .cons (hC.1.ju (Knows.left (Knows.tail iu))) (.cons (hC.2.ju (Knows.right (Knows.tail iu))) .nil);have hvl: [v1,v2].length=2:=rfl;obtain⟨qga,qgb,qgo,qgc,Yq,qgk,qgh,qgl⟩:=hhv;simp only[Value.slice.injEq] at Yq;obtain⟨rfl,_,rfl⟩:=Yq;refine zD 1<|iz [1,0,1,0,0] [] (λ(zz:Nat×(List (ak×Value))×Cells×Cells)=>[(2,(.map (some rm))),(4,zP b4),(6,zI 0),(25,.slice (some ⟨b25,0,none⟩) 2 2),(26,zI 2),(27,zI (zz.1:Int))]) (λ(zz:Nat×(List (ak×Value))×Cells×Cells)=>[.l zz.2.2.1,.l zz.2.2.2,zxc b4 100 [zI ck,zI (s:Int),zI c2,zI c3,zI c4,zI c5,zI c6],zxc b3 24 [.slice fZ ws.length eR]]) (λ(zz:Nat×(List (ak×Value))×Cells×Cells)=>zz.1<=2/\g9 rm mw zz.2.1 zz.2.2.1/\zz.2.1.map (·.1)=aH S/\MV zz.2.2.2 zz.2.1 (gU (((pW l).take zz.1).flatMap (H6 (s:Int))))) (λ(zz:Nat×(List (ak×Value))×Cells×Cells)=>2-zz.1) (⟨0,F,LM,Z⟩) ⟨by dsimp only;omega,hm,hk,hM⟩ (zN 0 4) ?_;rintro⟨k,F,LM,Z⟩ hI K2 kU rest;dsimp only at hI;refine zD 5<|zJ 28 ((k:Int) <2) (λh4=>?_) λh4=>?_
  ·
   refine zD 6<|zxs [v1,v2] k 2 1 qgh (λMl xu=>?_);obtain⟨P7,aqR,h30⟩:=aTd.get xu;obtain ake:P7.length<=6:=by have:=arl (zL aqR);omega
   obtain⟨av1,bcw,bcu,adT,rfl,bcv,av0,avZ⟩:=h30;refine jl 0 (qgl _ _ xu)<|zD 9<|iz [1,0,1,0,0,1,1,0,0,1,1,0,0] [K2] (λ(zz:Nat×(List (ak×Value))×Cells×Cells)=>[(2,(.map (some rm))),(4,zP b4),(6,zI 0),(8,.slice av1 P7.length adT),(25,.slice (some ⟨b25,0,none⟩) 2 2),(26,zI 2),(27,zI (k:Int)),(31,.slice av1 P7.length adT),(32,zI (P7.length:Int)),(33,zI (zz.1:Int))]) (λ(zz:Nat×(List (ak×Value))×Cells×Cells)=>[.l zz.2.2.1,.l zz.2.2.2,zxc b4 100 [zI ck,zI (s:Int),zI c2,zI c3,zI c4,zI c5,zI c6],zxc b3 24 [.slice fZ ws.length eR]]) (λ(zz:Nat×(List (ak×Value))×Cells×Cells)=>zz.1<=P7.length/\g9 rm mw zz.2.1 zz.2.2.1/\zz.2.1.map (·.1)=aH S/\MV zz.2.2.2 zz.2.1 (gU (((pW l).take k).flatMap (H6 (s:Int))++(H6 (s:Int) P7).take zz.1))) (λ(zz:Nat×(List (ak×Value))×Cells×Cells)=>P7.length-zz.1) (⟨0,F,LM,Z⟩) ⟨by dsimp only;omega,hI.2.1,hI.2.2.1,by simpa using hI.2.2.2⟩ (zN 0 4) ?_;rintro⟨i,F,LM,Z⟩ hJ K3 Dq rest;dsimp only at hJ;refine zD 5<|zJ 34 ((i:Int) <(P7.length:Int)) (λh5=>?_) λh5=>?_
   ·
    refine zD 7<|zxt P7 i adT 2 av0 avZ λYe wG=>jn λCH=>jd 14 [0,3,0,3]<|zW ((P7.length:Int)-1)<|zD 1<|zW (((P7.length:Int)-1)-(i:Int)) ?_;obtain⟨ib,qH⟩:=zG P7 (((((P7.length:Int)-1)-(i:Int))).toNat);refine Yj (((P7.length:Int)-1)-(i:Int)) adT 2 av0 qH (by omega)<|jl 0 (avZ _ _ qH)<|zD 1<|zxo 16 λtw=>jn λb54=>eH tw (zN 1 5)<|zxo 17 λC6=>We (kv:=mw) (F:=F) (r:=rm) (K:=41) 2 (eV (s:Int) Ye) (.slice (some ⟨b54,0,none⟩) 1 1) wV hJ.2.1 λLm8 hm8=>kA C6<|zD 2<|zW ((i:Int)+1)<|zD 2 ?_;have NC:=MV.upd (T:=41) (b:=b54) (y:=eV s ib) hO hJ.2.2.2 hJ.2.2.1 hl (abh (zL aqR) (zL wG));exact zV Dq (⟨i+1,_,Lm8,Z++[(b54,.cells ⟨[zI (s:Int),zI ib.n,zI ib.l]⟩ 41 (0,0))]⟩) ⟨by dsimp only;omega,hm8,NC.2,by rw[c8 (agN wG qH),<-List.append_assoc];exact NC.1⟩ [[0],[3,1],[4],[5]]
   refine zD 3<|zW ((k:Int)+1)<|zD 2<|zF kU (⟨k+1,F,LM,Z⟩) ⟨hJ.2.1,hJ.2.2.1,by have:=hJ.2.2.2;rw[bF (l:=H6 (s:Int) P7) (by rw[anI];omega)] at this;rw[Fp aqR];exact this⟩ [0,1,2,3]
  refine zD 7<|cd q0.a (zI 0) [] [0,1] (LM++Z) fq ⟨_,_,rfl,rfl,F,LM,Z,rfl,rfl,hI.2.1,hI.2.2.1,by have:=hI.2.2.2;rwa[show k=2 by omega] at this⟩
 refine jd 5 [1,0]<|zxs ws s eR 1 ou (λFL KD=>?_);obtain⟨l16,aeU,h16⟩:=dY.get KD;obtain bfL:=hO.len _ (zL aeU);obtain abd:l16=l:=aK (aeU.symm.trans hl);obtain⟨Ny,ajr,ajn,Nw,rfl,ajp,ajq,ajo⟩:=h16;refine jl 0 (oh _ _ KD)<|jd 4 [1,0]<|zxs ws s eR 1 ou (λNm jL=>?_);obtain⟨SI,IC,WZ⟩:=dY.get jL;obtain aHG:=hO.len _ (zL IC);obtain aq9:SI=l:=aK (IC.symm.trans hl);obtain⟨yT,Nv,Nr,yS,rfl,Nt,Nu,Ns⟩:=WZ;refine jl 0 (oh _ _ jL)<|zD 1<|zxo 6 λKX=>jc (vs:=[.slice Ny l16.length Nw,.func (.func 296) ⟨[]⟩ ⟨[]⟩]) [] (abw (show dk _ _ _ _ _ from ⟨Ny,ajr,ajn,Nw,rfl,ajp,ajq,ajo⟩) (by omega)) ?_;rintro v17 L17 aqH;obtain⟨No,Nn,ae1⟩:=aqH.form;subst ae1;refine eH KX (zN 1 4)<|zxo 13 λKW=>jc (vs:=[.slice yT SI.length yS,.func (.func 297) ⟨[]⟩ ⟨[]⟩]) [] (abv (show dk _ _ _ _ _ from ⟨yT,Nv,Nr,yS,rfl,Nt,Nu,Ns⟩) (by omega)) ?_;rintro v24 L24 aSG;obtain⟨Vh,Ve,bgn⟩:=aSG.form;subst bgn;refine eH KW (zN 1 5)<|zxo 14 λWJ=>jn λb25=>eH WJ (zN 1 6)<|zD 2<|zY cU ⟨b25,(.slice No (l16.filter λx=>mM x.n).length Nn),(.slice Vh (SI.filter λx=>Da x.n).length Ve),L17,L24⟩ ⟨by rw[<-abd];exact aqH,by rw[<-aq9];exact aSG⟩ [0,2,1,5,6,3,4]
theorem agG{s:Int}{l:List au}{x:au}(h:l[i]?=some x):(Gf s l)[i]?=some (eV s x,[⟨s,if mM x.n=true then x.n+1 else x.n-1,x.l⟩]):=apj h
theorem axA{s o r:Int}{l:List au}{x:au}(h:l[i]?=some x):(Ix s o l r)[i]?=some (eV s x,[⟨o,x.n+r,x.l⟩]):=apj h
def raise_at{l:List au}{x:au}(h:l[(((l.length:Int)-1)).toNat]?=some x):gW l=x.n+Int.tmod x.n 2:=by
 have:l[l.length-1]?=some x:=by rw[<-h];congr 1;omega
 simp only[gW,this]
def ajh{l:List au}(h:¬(l.length:Int)>0):gW l=0:=by
 have:l=[]:=kQ (by omega);subst this;rfl
theorem tm2(h:1<=n/\n<=40):(0<=Int.tmod n 2/\Int.tmod n 2<=1)/\n+Int.tmod n 2<=40:=by grind
theorem DG{l:List au}(h:∀x∈l,p8 x):0<=gW l/\gW l<=40:=by
 unfold gW;split
 .rename_i y hy;have h1:=(h y (zL hy)).1
  grind
 omega
def asq{v:Value}{S:List (List au)}{s:Nat}{l:List au}{c2 c3 c4:Int}{F:List (ak×Value)}(hS:bH ro v S)(hO:cq S)(hl:S[s]?=some l) (hm:g9 rm mw F LM) (hk:F.map (·.1)=aH S) (hM:MV Z F tY):eT zT 261 [.agg ⟨[v]⟩,.agg ⟨[zI ck,zI (s:Int),zI c2,zI c3,zI c4,zI c5,zI c6]⟩,(.map (some rm))] ro (LM++Z) (λr Y=>∃F' L' Z',r= zI 0/\Y=L'++Z'/\g9 rm mw F' L'/\F'.map (·.1)=aH S/\MV Z' F' (gU (Gf (s:Int) l))):=by
 obtain⟨ws,ht,dY⟩:=hS;obtain⟨fZ,xg,xe,eR,rfl,xf,ou,oh⟩:=ht;have Ar:=dY.len;have nI:=hO.two;have Bx:=(List.getElem?_eq_some_iff.1 hl).1;have Dm:=zL hl;have Ee:=hO.len _ Dm;refine zC [.l LM,.l Z]<|zD 2<|jn λb3=>jn λb4=>jd 9 [1,0]<|zxs ws s eR 1 ou (λvt iD=>?_);obtain⟨Di,KN,NN⟩:=dY.get iD;obtain aHI:=hO.len _ (zL KN);obtain FZ:Di=l:=Option.some.inj (KN.symm.trans hl);obtain aGU:=hO.ok _ (zL KN);obtain⟨Px,aod,aob,Ib,rfl,aoc,ZA,Zz⟩:=NN;refine jl 0 (oh _ _ iD)<|zD 4<|iz [1,0,1,0,0] [] (λ(zz:Nat×(List (ak×Value))×Cells×Cells)=>[(2,(.map (some rm))),(4,zP b4),(6,zI 0),(15,.slice Px Di.length Ib),(16,zI (Di.length:Int)),(17,zI (zz.1:Int))]) (λ(zz:Nat×(List (ak×Value))×Cells×Cells)=>[.l zz.2.2.1,.l zz.2.2.2,zxc b4 100 [zI ck,zI (s:Int),zI c2,zI c3,zI c4,zI c5,zI c6],zxc b3 24 [.slice fZ ws.length eR]]) (λ(zz:Nat×(List (ak×Value))×Cells×Cells)=>zz.1<=Di.length/\g9 rm mw zz.2.1 zz.2.2.1/\zz.2.1.map (·.1)=aH S/\MV zz.2.2.2 zz.2.1 (gU ((Gf (s:Int) l).take zz.1))) (λ(zz:Nat×(List (ak×Value))×Cells×Cells)=>Di.length-zz.1) (⟨0,F,LM,Z⟩) ⟨by dsimp only;omega,hm,hk,hM⟩ [2,3,0,1] ?_;rintro⟨i,F,LM,Z⟩ hI K1 cU rest;dsimp only at hI;refine zD 5<|zJ 18 ((i:Int) <(Di.length:Int)) (λh1=>?_) λh1=>?_
 ·
  refine zD 6<|zxt Di i Ib 2 ZA Zz λGa B3=>jn λb8=>jd 3 [0] ?_;have SP:=aGU _ (zL B3);have be6:=SP.1.1;have be5:=SP.1.2;refine jd 3 [0]<|zW (Ga.n-1)<|jd 6 [0]<|zxp [.agg ⟨[zI Ga.n,zI Ga.l]⟩] (λhs=>(aUB (x:=Ga)))<|zD 1<|js 25 (mM Ga.n) (λh2=>?_) (λh2=>?_)
  ·
   refine jd 4 [0]<|zW (Ga.n+1)<|jd 13 [3,0,3,0]<|zxp [zI (s:Int),zI (Ga.n+1),zI Ga.l] (λhs=>gAt)<|zxo 11 λC7=>jn λb40=>eH C7 (zN 1 5)<|zxo 12 λtx=>We (kv:=mw) (F:=F) (r:=rm) (K:=41) 2 (eV (s:Int) Ga) (.slice (some ⟨b40,0,none⟩) 1 1) wV hI.2.1 λLm5 hm5=>kA tx<|zD 2<|zW ((i:Int)+1)<|zD 2 ?_;have NC:=MV.upd (T:=41) (b:=b40) (y:=⟨s,Ga.n+1,Ga.l⟩) hO hI.2.2.2 hI.2.2.1 hl (by rw[<-FZ];exact zL B3);exact zV cU (⟨i+1,_,Lm5,Z++[(b40,.cells ⟨[zI (s:Int),zI (Ga.n+1),zI Ga.l]⟩ 41 (0,0))]⟩) ⟨by dsimp only;omega,hm5,NC.2,by rw[c8 (agG (by rw[<-FZ];exact B3))];rw[if_pos (by assumption)];exact NC.1⟩ [[0],[3,1],[4],[5]]
  refine jd 13 [3,0,3,0]<|zxp [zI (s:Int),zI (Ga.n-1),zI Ga.l] (λhs=>gAt)<|zxo 11 λtw=>jn λb40=>eH tw (zN 1 5)<|zxo 12 λC6=>We (kv:=mw) (F:=F) (r:=rm) (K:=41) 2 (eV (s:Int) Ga) (.slice (some ⟨b40,0,none⟩) 1 1) wV hI.2.1 λLm8 hm8=>kA C6<|zD 2<|zW ((i:Int)+1)<|zD 2 ?_;have NC:=MV.upd (T:=41) (b:=b40) (y:=⟨s,Ga.n-1,Ga.l⟩) hO hI.2.2.2 hI.2.2.1 hl (by rw[<-FZ];exact zL B3);exact zV cU (⟨i+1,_,Lm8,Z++[(b40,.cells ⟨[zI (s:Int),zI (Ga.n-1),zI Ga.l]⟩ 41 (0,0))]⟩) ⟨by dsimp only;omega,hm8,NC.2,by rw[c8 (agG (by rw[<-FZ];exact B3))];rw[if_neg (by rw[show mM Ga.n=false from (by assumption)];decide)];exact NC.1⟩ [[0],[3,1],[4],[5]]
 refine zD 7<|zR _ [] [0,1] _ ⟨F,LM,Z,rfl,rfl,hI.2.1,hI.2.2.1,by have:=hI.2.2.2;rwa[bF (by simp only[Gf,dE];rw[<-FZ];omega)] at this⟩
theorem MV.aNt{S:List (List au)}(hO:cq S){F:List (ak×Value)}{u:List (ak×List ak)}{k:ak}{y:List ak}{v:Value}(h:MV Z F (gU u))(hk:F.map (·.1)=aH S)(hm:k∈aH S)(hv:∀bU,Knows bU Z2->dk bU v 3 bO y):
 MV (Z++Z2) (iS k v F) (gU (u++[(k,y)]))/\(iS k v F).map (·.1)=aH S:=by
 have hm:k∈F.map (·.1):=by grind
 have hn:(F.map (·.1)).Nodup:=by rw[hk];exact B5 hO _
 rw[ah2];exact⟨h.set hm hn hv,(OO hm hn).1.trans hk⟩
theorem th{y:au}:cD n l y=true↔y=⟨n,l⟩:=by
 rcases y with ⟨a,b⟩
 grind [cD]
theorem Xi{p:α->Bool}:∀ {l:List α} {k:Nat},bM p l k>=0->∃x∈l,p x=true
 | [],_,h=>by grind [bM]
 |x::l,k,h=>by
  cases hp:p x with
  |true=>grind
  |false=>
   simp only[bM,hp] at h;obtain⟨y,h1,h2⟩:=Xi h
   grind
theorem Ih{ps:List au}(h:bM (cD n l) ps 0>=0):(⟨n,l⟩:au)∈ps:=by
 obtain⟨x,h1,h2⟩:=Xi h
 grind [th]
def Bm(l:List au)(n t:Int):Int:=bif !decide (bM (cD n t) l 0>=0) then 3 else 0
theorem afA{l:List au}(h:(!decide (bM (cD n t) l 0>=0))=true):Bm l n t=3:=by grind [Bm]
theorem asK{l:List au}(h:(!decide (bM (cD n t) l 0>=0))=false):Bm l n t=0:=by grind [Bm]
theorem apY{l:List au}(h:(!decide (bM (cD n t) l 0>=0))=false):(⟨n,t⟩:au)∈l:=Ih (by grind)
def ays{v:Value}{S:List (List au)}{s:Nat}{l:List au}{c2 c3 c4:Int}{F:List (ak×Value)}(hS:bH ro v S)(hO:cq S)(hl:S[s]?=some l) (hm:g9 rm mw F LM) (hk:F.map (·.1)=aH S) (hM:MV Z F tY):eT zT 265 [.agg ⟨[v]⟩,.agg ⟨[zI ck,zI (s:Int),zI c2,zI c3,zI c4,zI c5,zI c6]⟩,(.map (some rm))] ro (LM++Z) (λr Y=>∃F' L' Z',r= zI (Bm l c3 c4)/\Y=L'++Z'/\g9 rm mw F' L'/\F'.map (·.1)=aH S/\((Bm l c3 c4)=0->MV Z' F' (gU ([(⟨s,c3,c4⟩,[])])))):=by
 obtain⟨ws,ht,dY⟩:=hS;obtain⟨fZ,xg,xe,eR,rfl,xf,ou,oh⟩:=ht;have Ar:=dY.len;have nI:=hO.two;have Bx:=(aA.1 hl).1;have Dm:=zL hl;have Ee:=hO.len _ Dm;refine zC [.l LM,.l Z]<|zD 2<|jn λb3=>jn λb4=>jd 9 [1,0]<|zxs ws s eR 1 ou (λx11 aaO=>?_);obtain⟨l12,aS8,Yu⟩:=dY.get aaO;obtain brK:=hO.len _ (zL aS8);obtain akn:l12=l:=aK (aS8.symm.trans hl);obtain⟨aPx,bcO,bcK,aPw,rfl,bcM,bcN,bcL⟩:=Yu;refine jl 0 (oh _ _ aaO)<|jd 2 [0]<|zxp [.slice aPx l12.length aPw,.agg ⟨[zI c3,zI c4]⟩] (λhs=>KA ((show dk _ _ _ _ _ from ⟨aPx,bcO,bcK,aPw,rfl,bcM,bcN,bcL⟩).up hs) (by first|omega| (simp only[aM,zM];omega))) ?_;refine zD 2<|js 16 (!(decide (bM (cD c3 c4) l12 0>=0))) (λh1=>?_) (λh1=>?_)
 ·
  refine zD 6<|zR _ [] [2,3] _ ⟨F,LM,Z,by rw[afA (show (!decide (bM (cD c3 c4) l 0>=0))=true from (by rw[<-akn];assumption))],rfl,hm,hk,λe=>absurd ((afA (show (!decide (bM (cD c3 c4) l 0>=0))=true from (by rw[<-akn];assumption))).symm.trans e) (by decide)⟩
 refine jd 10 [0,0]<|We (kv:=mw) (F:=F) (r:=rm) (K:=41) 2 (⟨(s:Int),c3,c4⟩:ak) (zS) wV hm λLm2 yN=>zD 6 ?_;have uM:=apY (show (!decide (bM (cD c3 c4) l 0>=0))=false from (by rw[<-akn];assumption));have NC:=MV.aNt (u:=[]) (Z2:=[]) (k:=eV (s:Int) ⟨c3,c4⟩) (y:=[]) (v:= zS) hO hM hk (B9 hl uM) (λ_ _=>dk.nil _ _ _ _ _);exact zR _ [] [0,3] _ ⟨_,Lm2,Z,by rw[asK (show (!decide (bM (cD c3 c4) l 0>=0))=false from (by rw[<-akn];assumption))],rfl,yN,NC.2,λ_=>by have:=NC.1;rwa[e9] at this⟩
def sC(l lo:List au):Int:=bif decide (l.length+lo.length>8) then 6 else bif l.any λx=>decide (x.n+gW lo>40) then 1 else 0
theorem join_6{l lo:List au}(h:l.length+lo.length>8):sC l lo=6:=by grind [sC,cN]
theorem join_1{l lo:List au}{x:au}(h:¬l.length+lo.length>8)(hx:x∈l)(h2:x.n+gW lo>40):sC l lo=1:=by
 grind [gW,List.any_eq_true,sC,cX]
theorem join_0{l lo:List au}(h:¬l.length+lo.length>8)(h2:∀x∈l,¬x.n+gW lo>40):sC l lo=0:=by
 grind [gW,List.any_eq_false,sC,cX]
theorem Jl{p:α->Prop}{l:List α}{x:α}(h:∀y∈l.take i,p y)(hx:l[i]?=some x) (hp:p x):∀y∈l.take (i+1),p y:=λy hy=>by
 rw[c8 hx] at hy
 grind
def ayr{v:Value}{S:List (List au)}{s:Nat}{l lo:List au}{c3 c4:Int}{F:List (ak×Value)}(hS:bH ro v S)(hO:cq S)(hl:S[s]?=some l) (hm:g9 rm mw F LM) (hk:F.map (·.1)=aH S) (hM:MV Z F tY) (qP:S[o]?=some lo):eT zT 263 [.agg ⟨[v]⟩,.agg ⟨[zI ck,zI (s:Int),zI (o:Int),zI c3,zI c4,zI c5,zI c6]⟩,(.map (some rm))] ro (LM++Z) (λr Y=>∃F' L' Z',r= zI (sC l lo)/\Y=L'++Z'/\g9 rm mw F' L'/\F'.map (·.1)=aH S/\((sC l lo)=0->MV Z' F' (gU (Ix (s:Int) (o:Int) l (gW lo))))):=by
 obtain⟨ws,ht,dY⟩:=hS;obtain⟨fZ,xg,xe,eR,rfl,xf,ou,oh⟩:=ht;have Ar:=dY.len;have nI:=hO.two;have Bx:=(aA.1 hl).1;have Dm:=zL hl;have Ee:=hO.len _ Dm;have hso:=(aA.1 qP).1;have aqM:=zL qP;have hr:=DG (hO.ok _ aqM);have bfP:=hO.len _ aqM;refine zC [.l LM,.l Z]<|zD 2<|jn λb3=>jn λb4=>jd 8 [1,0]<|zxs ws s eR 1 ou (λx17 yh=>?_);obtain⟨V9,Wx,h18⟩:=dY.get yh;obtain aSU:=hO.len _ (zL Wx);obtain lq:V9=l:=aK (Wx.symm.trans hl);obtain beF:=hO.ok _ (zL Wx);obtain⟨av6,aPv,aPt,an8,rfl,aPu,aFi,aFh⟩:=h18;refine jl 0 (oh _ _ yh)<|jd 4 [1,0]<|zxs ws o eR 1 ou (λpF rV=>?_);obtain⟨l24,aHO,h24⟩:=dY.get rV;obtain brJ:=hO.len _ (zL aHO);obtain FY:l24=lo:=aK (aHO.symm.trans qP);obtain aR6:=hO.ok _ (zL aHO);obtain⟨bpQ,bpP,bpN,aPn,rfl,bpO,aPm,aPl⟩:=h24;refine jl 0 (oh _ _ rV)<|zD 10<|zW ((V9.length:Int)+(l24.length:Int))<|zD 2<|zJ 30 (((V9.length:Int)+(l24.length:Int))>8) (λh1=>?_) λh1=>?_
 ·
  refine zD 6<|zR _ [] [2,3] _ ⟨F,LM,Z,by rw[join_6 (by rw[<-lq,<-FY];omega)],rfl,hm,hk,λe=>absurd ((join_6 (by rw[<-lq,<-FY];omega)).symm.trans e) (by decide)⟩
 refine zD 18<|Yk [1,1,1,1,1] [] (λ(zz:Int)=>[(2,(.map (some rm))),(4,zP b4),(6,zI 0),(7,.slice av6 V9.length an8),(9,zI zz)]) (λzz=>[.l LM,.l Z,zxc b4 100 [zI ck,zI (s:Int),zI (o:Int),zI c3,zI c4,zI c5,zI c6],zxc b3 24 [.slice fZ ws.length eR]]) (λzz=>zz=gW lo) ?_ (λK1 cU=>?_)
 ·
  rintro q hQ rest;refine zD 8<|iz [1,1,1,1,1,0,1,0,0] [] (λ(zz:Nat×(List (ak×Value))×Cells×Cells)=>[(2,(.map (some rm))),(4,zP b4),(9,zI q),(49,.slice av6 V9.length an8),(50,zI (V9.length:Int)),(51,zI (zz.1:Int))]) (λ(zz:Nat×(List (ak×Value))×Cells×Cells)=>[.l zz.2.2.1,.l zz.2.2.2,zxc b4 100 [zI ck,zI (s:Int),zI (o:Int),zI c3,zI c4,zI c5,zI c6],zxc b3 24 [.slice fZ ws.length eR]]) (λ(zz:Nat×(List (ak×Value))×Cells×Cells)=>(zz.1<=V9.length/\∀x∈V9.take zz.1,¬x.n+gW lo>40)/\g9 rm mw zz.2.1 zz.2.2.1/\zz.2.1.map (·.1)=aH S/\MV zz.2.2.2 zz.2.1 (gU ((Ix (s:Int) (o:Int) l (gW lo)).take zz.1))) (λ(zz:Nat×(List (ak×Value))×Cells×Cells)=>V9.length-zz.1) (⟨0,F,LM,Z⟩) ⟨⟨by dsimp only;omega,λ_ h=>by simp at h⟩,hm,hk,hM⟩ (zN 0 4) ?_;rintro⟨i,F,LM,Z⟩ hI K2 kU rest;dsimp only at hI;refine zD 5<|zJ 52 ((i:Int) <(V9.length:Int)) (λh2=>?_) λh2=>?_
  ·
   refine zD 6<|zxt V9 i an8 2 aFi aFh λx53 aaK=>jn λDd=>jd 4 [0] ?_;have SP:=beF _ (zL aaK);have be6:=SP.1.1;have be5:=SP.1.2;refine jd 4 [0]<|zW (x53.n+q)<|zD 2<|zJ 59 ((x53.n+q)>40) (λh3=>?_) λh3=>?_
   ·
    refine zD 6<|zR _ [] [1,2] _ ⟨F,LM,Z,by rw[join_1 (by rw[<-lq,<-FY];omega) (zL (by rw[<-lq];exact aaK)) (by rw[<-hQ];assumption)],rfl,hI.2.1,hI.2.2.1,λe=>absurd ((join_1 (by rw[<-lq,<-FY];omega) (zL (by rw[<-lq];exact aaK)) (by rw[<-hQ];assumption)).symm.trans e) (by decide)⟩
   refine jd 13 [3,0,3,0]<|zW (x53.n+q)<|jd 2 [0]<|zxp [zI (o:Int),zI (x53.n+q),zI x53.l] (λhs=>gAt)<|zxo 14 λtx=>jn λb74=>eH tx (zN 1 5)<|zxo 15 λtw=>We (kv:=mw) (F:=F) (r:=rm) (K:=41) 2 (eV (s:Int) x53) (.slice (some ⟨b74,0,none⟩) 1 1) wV hI.2.1 λLm6 hm6=>kA tw<|zD 2<|zW ((i:Int)+1)<|zD 2 ?_;have NC:=MV.upd (T:=41) (b:=b74) (y:=⟨o,x53.n+q,x53.l⟩) hO hI.2.2.2 hI.2.2.1 hl (by rw[<-lq];exact zL aaK);exact zV kU (⟨i+1,_,Lm6,Z++[(b74,.cells ⟨[zI (o:Int),zI (x53.n+q),zI x53.l]⟩ 41 (0,0))]⟩) ⟨⟨by dsimp only;omega,Jl hI.1.2 aaK (by rw[<-hQ];assumption)⟩,hm6,NC.2,by rw[c8 (axA (by rw[<-lq];exact aaK))];have e:=NC.1;rw[hQ] at e ⊢;exact e⟩ [[0],[3,1],[4],[5]]
  refine zD 7 ?_;have hj0:=join_0 (by rw[<-lq,<-FY];omega) (show ∀x∈l,¬x.n+gW lo>40 from by have:=hI.1.2;rw[bF (by omega),lq] at this;exact this);exact zR _ [] [0,1] _ ⟨F,LM,Z,by rw[hj0],rfl,hI.2.1,hI.2.2.1,λ_=>by have:=hI.2.2.2;rwa[bF (by simp only[Ix,dE];rw[<-lq];omega)] at this⟩
 refine zJ 34 ((l24.length:Int)>0) (λh7=>?_) λh7=>?_
 ·
  refine zD 4<|zW ((l24.length:Int)-1) ?_;obtain⟨x38,Ha⟩:=zG l24 ((((l24.length:Int)-1)).toNat);refine Yj ((l24.length:Int)-1) aPn 2 aPm Ha (by omega)<|zD 1<|jl 0 (aPl _ _ Ha)<|zD 2<|zW ((l24.length:Int)-1) ?_;obtain⟨Yd,Ws⟩:=zG l24 ((((l24.length:Int)-1)).toNat);refine Yj ((l24.length:Int)-1) aPn 2 aPm Ws (by omega)<|zD 1<|jl 0 (aPl _ _ Ws)<|zD 1<|ja (x38.n+(Int.tmod Yd.n 2)) (by have h1:=(aR6 _ (zL Ha)).1;have h2:=(aR6 _ (zL Ws)).1;have:=tm2 h2;omega) ?_;refine zD 2 ?_;have hra:=raise_at Ha;rw[FY] at hra;exact zY cU (x38.n+(Int.tmod Yd.n 2)) (by rw[<-FY];have e:x38=Yd:=aK (Ha.symm.trans Ws);subst e;exact(raise_at Ha).symm) [2,3,0,1]
 refine zD 2<|dX cU 0 (by rw[<-FY];exact(ajh (by omega)).symm) bK [2,3,0,1] (Sub.refl _)
def rU(l:List au)(n:Int):Nat->Int->Int
 |0,k=>k
 |f+1,k=>bif decide (bM (cD n k) l 0>=0) then rU l n f (k+1) else k
def aBi{l:List au}{q:Int}{k:Nat}(hk:k<=4)(h:bM (cD n q) l 0>=0):rU l n (5-k) q=rU l n (5-(k+1)) (q+1):=by
 rw[show 5-k=(5-(k+1))+1 by omega];simp_all[rU,cG]
theorem ahl{l:List au}{q:Int}{k:Nat}(hk:k<=4)(h:¬bM (cD n q) l 0>=0):rU l n (5-k) q=q:=by
 rw[show 5-k=(5-(k+1))+1 by omega];simp_all[rU,cX,jI]
def Ex(l:List au)(n t:Int):Int:=bif !decide (bM (cD n t) l 0>=0) then 3 else bif decide (rU l n 5 1>4) then 6 else 0
theorem div_3{l:List au}(h:(!decide (bM (cD n t) l 0>=0))=true):Ex l n t=3:=by grind [Ex]
theorem div_6{l:List au}(h:(!decide (bM (cD n t) l 0>=0))=false)(h2:rU l n 5 1>4):Ex l n t=6:=by grind [Ex,cN]
theorem div_0{l:List au}(h:(!decide (bM (cD n t) l 0>=0))=false)(h2:¬rU l n 5 1>4):Ex l n t=0:=by grind [Ex,cX]
def Ls(s:Int)(l:List au)(n t:Int):List (ak×List ak):=[(⟨s,n,t⟩,[⟨s,n,t⟩,⟨s,n,rU l n 5 1⟩])]
def MV.avh{S:List (List au)}(hO:cq S){F:List (ak×Value)}{u:List (ak×List ak)}{k x y:ak}{b:Nat}(h:MV Z F (gU u))(hk:F.map (·.1)=aH S)(hm:k∈aH S):
 MV (Z++[(b,.cells ⟨bO x++bO y⟩ T (0,0))]) (iS k (.slice (some ⟨b,0,none⟩) 2 2) F) (gU (u++[(k,[x,y])]))/\(iS k (.slice (some ⟨b,0,none⟩) 2 2) F).map (·.1)=aH S:=
 h.aNt hO hk hm λbU hk=>eZ [x,y] (hk _ (.head _)) (λ_ _=>rfl)
def asr{v:Value}{S:List (List au)}{s:Nat}{l:List au}{c2 c3 c4:Int}{F:List (ak×Value)}(hS:bH ro v S)(hO:cq S)(hl:S[s]?=some l) (hm:g9 rm mw F LM) (hk:F.map (·.1)=aH S) (hM:MV Z F tY):eT zT 264 [.agg ⟨[v]⟩,.agg ⟨[zI ck,zI (s:Int),zI c2,zI c3,zI c4,zI c5,zI c6]⟩,(.map (some rm))] ro (LM++Z) (λr Y=>∃F' L' Z',r= zI (Ex l c3 c4)/\Y=L'++Z'/\g9 rm mw F' L'/\F'.map (·.1)=aH S/\((Ex l c3 c4)=0->MV Z' F' (gU (Ls (s:Int) l c3 c4)))):=by
 obtain⟨ws,ht,dY⟩:=hS;obtain⟨fZ,xg,xe,eR,rfl,xf,ou,oh⟩:=ht;have Ar:=dY.len;have nI:=hO.two;have Bx:=(aA.1 hl).1;have Dm:=zL hl;have Ee:=hO.len _ Dm;refine zC [.l LM,.l Z]<|zD 2<|jn λb3=>jn λb4=>jd 8 [1,0]<|zxs ws s eR 1 ou (λvt iD=>?_);obtain⟨Di,KN,NN⟩:=dY.get iD;obtain aHI:=hO.len _ (zL KN);obtain FZ:Di=l:=aK (KN.symm.trans hl);obtain aGU:=hO.ok _ (zL KN);obtain⟨Px,aod,aob,Ib,rfl,aoc,ZA,Zz⟩:=NN;refine jl 0 (oh _ _ iD)<|jd 8 [0]<|zxp [.slice Px Di.length Ib,.agg ⟨[zI c3,zI c4]⟩] (λhs=>KA ((show dk _ _ _ _ _ from ⟨Px,aod,aob,Ib,rfl,aoc,ZA,Zz⟩).up hs) (by first|omega| (simp only[aM,zM];omega))) ?_;refine zD 2<|js 20 (!(decide (bM (cD c3 c4) Di 0>=0))) (λh1=>?_) (λh1=>?_)
 ·
  refine zD 6<|zR _ [] [2,3] _ ⟨F,LM,Z,by rw[div_3 (show (!decide (bM (cD c3 c4) l 0>=0))=true from (by rw[<-FZ];assumption))],rfl,hm,hk,λe=>absurd ((div_3 (show (!decide (bM (cD c3 c4) l 0>=0))=true from (by rw[<-FZ];assumption))).symm.trans e) (by decide)⟩
 refine zD 8<|iz [1,1,1,1,0,0,0] [] (λ(zz:Nat×Int)=>[(2,(.map (some rm))),(4,zP b4),(6,zI 0),(7,.slice Px Di.length Ib),(8,zI zz.2)]) (λzz=>[.l LM,.l Z,zxc b4 100 [zI ck,zI (s:Int),zI c2,zI c3,zI c4,zI c5,zI c6],zxc b3 24 [.slice fZ ws.length eR]]) (λzz=>zz.1<=4/\zz.2=(zz.1:Int)+1/\rU l c3 5 1=rU l c3 (5-zz.1) zz.2) (λzz=>5-zz.1) (⟨0,1⟩) ⟨by omega,rfl,rfl⟩ [2,3,0,1] ?_;rintro⟨k,q⟩ hI K1 cU rest;dsimp only at hI;refine jd 9 [2]<|zxp [.slice Px Di.length Ib,.agg ⟨[zI c3,zI q]⟩] (λhs=>KA ((show dk _ _ _ _ _ from ⟨Px,aod,aob,Ib,rfl,aoc,ZA,Zz⟩).up hs) (by first|omega| (simp only[List.length_set,zM];omega))) ?_;refine zD 1<|js 27 (decide (bM (cD c3 q) Di 0>=0)) (λh2=>?_) (λh2=>?_)
 ·
  refine zD 5<|zW (q+1)<|zD 2 ?_;have uM:=Ih (show bM (cD c3 q) Di 0>=0 from of_decide_eq_true (by assumption));have ei:=(aGU _ uM).2.2;exact zY cU (⟨k+1,(q+1)⟩) ⟨by dsimp only at ei ⊢;omega,by dsimp only;omega,by dsimp only;rw[hI.2.2];exact aBi hI.1 (by rw[<-FZ];exact of_decide_eq_true (by assumption))⟩ [0,1,2,3]
 refine zD 9<|js 33 (decide ((Di.length:Int)>=8)) (λh3=>?_) (λh3=>?_)
 ·
  have yW:=h3;replace yW:=ah yW;exfalso;omega
 have yW:=h3;replace yW:=af yW;refine zD 4<|zJ 36 (q>4) (λh4=>?_) λh4=>?_
 ·
  refine zD 6<|zR _ [] [0,1] _ ⟨F,LM,Z,by rw[div_6 (show (!decide (bM (cD c3 c4) l 0>=0))=false from (by rw[<-FZ];assumption)) (by rw[(show rU l c3 5 1=q from by rw[hI.2.2,ahl hI.1 (by rw[<-FZ];exact af (by assumption))])];assumption)],rfl,hm,hk,λe=>absurd ((div_6 (show (!decide (bM (cD c3 c4) l 0>=0))=false from (by rw[<-FZ];assumption)) (by rw[(show rU l c3 5 1=q from by rw[hI.2.2,ahl hI.1 (by rw[<-FZ];exact af (by assumption))])];assumption)).symm.trans e) (by decide)⟩
 refine jd 9 [2,2]<|jn λb9=>jd 13 [0,0,0,3,3]<|zxp [zI (s:Int),zI c3,zI q] (λhs=>gAt)<|zxo 10 λC7=>jn λb52=>eH C7 (zN 1 5)<|zxo 11 λtx=>We (kv:=mw) (F:=F) (r:=rm) (K:=41) 2 (⟨(s:Int),c3,c4⟩:ak) (.slice (some ⟨b52,0,none⟩) 2 2) wV hm λLm7 hm7=>kA tx<|zD 6 ?_;have hq:=(show rU l c3 5 1=q from by rw[hI.2.2,ahl hI.1 (by rw[<-FZ];exact af (by assumption))]);have NC:=MV.avh (T:=41) (b:=b52) (u:=[]) (k:=eV (s:Int) ⟨c3,c4⟩) (x:=⟨s,c3,c4⟩) (y:=⟨s,c3,q⟩) hO hM hk (B9 hl (apY (show (!decide (bM (cD c3 c4) l 0>=0))=false from (by rw[<-FZ];assumption))));exact zR _ [] [0,3,1] _ ⟨_,Lm7,_,by rw[div_0 (show (!decide (bM (cD c3 c4) l 0>=0))=false from (by rw[<-FZ];assumption)) (by rw[hq];assumption)],rfl,hm7,NC.2,λ_=>by have:=NC.1;simp only[Ls,hq];exact this⟩
def vL(l:List au)(k:Nat):List au:=l.filter λx=>if k=0 then mM x.n else Da x.n
def Uo{l:List au}{k:Nat}:(vL l k).length<=l.length:=Az _ _
def aks{l:List au}{k:Nat}{x:au}(h:x∈vL l k):x∈l:=(cQ.1 h).1
def aJK{w v:Value}{l' l:List au}{k:Nat}(he:l'=l)(hx:([.func (.func 296) ⟨[]⟩ ⟨[]⟩,.func (.func 297) ⟨[]⟩ ⟨[]⟩]:List Value)[k]?=some w) (hl:dk ro v 2 cv l') (hn:l'.length<=6):eT zT 295 [v,w] ro [] (λr Y=>bI r 2 39 cv (vL l k) Y):=by
 subst he
 match k,hx with
 |0,hx=>obtain rfl:=aK hx;exact abw hl hn
 |1,hx=>obtain rfl:=aK hx;exact abv hl hn
 |k+2,hx=>simp at hx
def EB(s:Int)(k:Nat)(h:List au):List (ak×List ak):=h.zipIdx.map λp=>(eV s p.1,[⟨s,2*(p.2:Int)+1+k,0⟩])
theorem akN{s:Int}{k:Nat}{h:List au}{x:au}(hx:h[i]?=some x):(EB s k h)[i]?=some (eV s x,[⟨s,2*(i:Int)+1+k,0⟩]):=by
 grind [EB]
theorem afP{s:Int}{k:Nat}{h:List au}:(EB s k h).length=h.length:=by simp[EB]
def uZ(s:Int)(l:List au)(k:Nat):List (ak×List ak):=EB s k (vL l k)
theorem UK{s:Int}{l:List au}{k:Nat}{x:au}(hx:(vL l k)[i]?=some x):(uZ s l k)[i]?=some (eV s x,[⟨s,2*(i:Int)+1+k,0⟩]):=akN hx
def Ez(s:Int)(l:List au):List (ak×List ak):=(List.range 2).flatMap (uZ s l)
theorem anR{f:Nat->List α}{k:Nat}:(List.range (k+1)).flatMap f=(List.range k).flatMap f++f k:=by rw[GC,iF,List.flatMap_singleton]
def ast{v:Value}{S:List (List au)}{s:Nat}{l:List au}{c2 c3 c4:Int}{F:List (ak×Value)}(hS:bH ro v S)(hO:cq S)(hl:S[s]?=some l) (hm:g9 rm mw F LM) (hk:F.map (·.1)=aH S) (hM:MV Z F tY):eT zT 262 [.agg ⟨[v]⟩,.agg ⟨[zI ck,zI (s:Int),zI c2,zI c3,zI c4,zI c5,zI c6]⟩,(.map (some rm))] ro (LM++Z) (λr Y=>∃F' L' Z',r= zI 0/\Y=L'++Z'/\g9 rm mw F' L'/\F'.map (·.1)=aH S/\MV Z' F' (gU (Ez (s:Int) l))):=by
 obtain⟨ws,ht,dY⟩:=hS;obtain⟨fZ,xg,xe,eR,rfl,xf,ou,oh⟩:=ht;have Ar:=dY.len;have nI:=hO.two;have Bx:=(List.getElem?_eq_some_iff.1 hl).1;have Dm:=zL hl;have Ee:=hO.len _ Dm;refine zC [.l LM,.l Z]<|zD 2<|jn λb3=>jn λb4=>zD 5<|jn λwM=>jf [0] [(wM,.cells ⟨[.func (.func 296) ⟨[]⟩ ⟨[]⟩,.func (.func 297) ⟨[]⟩ ⟨[]⟩]⟩ 364 (0,0))] (λAD fq iu=>?_);have hhv:=eZ (enc:=qa) [.func (.func 296) ⟨[]⟩ ⟨[]⟩,.func (.func 297) ⟨[]⟩ ⟨[]⟩] (iu _ (.head _)) (λ_ _=>rfl);have hvl:([.func (.func 296) ⟨[]⟩ ⟨[]⟩,.func (.func 297) ⟨[]⟩ ⟨[]⟩]:List Value).length=2:=rfl;obtain⟨qga,qgb,qgo,qgc,Yq,qgk,qgh,qgl⟩:=hhv;simp only[Value.slice.injEq] at Yq;obtain⟨rfl,_,rfl⟩:=Yq;refine zD 4<|iz [1,0,1,0,0] [] (λ(zz:Nat×(List (ak×Value))×Cells×Cells)=>[(2,(.map (some rm))),(3,zP b3),(4,zP b4),(6,zI 0),(11,.slice (some ⟨wM,0,none⟩) 2 2),(12,zI 2),(13,zI (zz.1:Int))]) (λ(zz:Nat×(List (ak×Value))×Cells×Cells)=>[.l zz.2.2.1,.l zz.2.2.2,zxc b4 100 [zI ck,zI (s:Int),zI c2,zI c3,zI c4,zI c5,zI c6],zxc b3 24 [.slice fZ ws.length eR]]) (λ(zz:Nat×(List (ak×Value))×Cells×Cells)=>zz.1<=2/\g9 rm mw zz.2.1 zz.2.2.1/\zz.2.1.map (·.1)=aH S/\MV zz.2.2.2 zz.2.1 (gU ((List.range zz.1).flatMap (uZ (s:Int) l)))) (λ(zz:Nat×(List (ak×Value))×Cells×Cells)=>2-zz.1) (⟨0,F,LM,Z⟩) ⟨by dsimp only;omega,hm,hk,hM⟩ [2,3,0,1] ?_;rintro⟨k,F,LM,Z⟩ hI K1 cU rest;dsimp only at hI;refine zD 5<|zJ 14 ((k:Int) <2) (λh4=>?_) λh4=>?_
 ·
  refine zD 7<|zxt (([.func (.func 296) ⟨[]⟩ ⟨[]⟩,.func (.func 297) ⟨[]⟩ ⟨[]⟩]:List Value)) k 2 1 qgh qgl λx16 KC=>jd 9 [3,2]<|zxs ws s eR 1 ou (λNm jL=>?_);obtain⟨SI,IC,WZ⟩:=dY.get jL;obtain aHG:=hO.len _ (zL IC);obtain aq9:SI=l:=Option.some.inj (IC.symm.trans hl);obtain⟨yT,Nv,Nr,yS,rfl,Nt,Nu,Ns⟩:=WZ;refine jl 0 ((oh _ _ jL).ext (xB fq))<|zD 1<|jc (vs:=[.slice yT SI.length yS,x16]) [] (aJK aq9 KC ((show dk _ _ _ _ _ from ⟨yT,Nv,Nr,yS,rfl,Nt,Nu,Ns⟩).up fq) (by omega)) ?_;rintro v25 L25 axU;have hkl:=Uo (l:=l) (k:=k);refine jf [0] L25 (λro7 wW JD=>?_);have hzk:=axU.ju JD;obtain⟨bbT,bo7,bo5,aOI,rfl,bo6,bbS,bbR⟩:=hzk;refine zD 4<|iz [1,0,1,0,0,1,1,0,0,1,1,0,0] [K1] (λ(zz:Nat×(List (ak×Value))×Cells×Cells)=>[(2,(.map (some rm))),(3,zP b3),(4,zP b4),(6,zI 0),(7,zI (k:Int)),(11,.slice (some ⟨wM,0,none⟩) 2 2),(12,zI 2),(13,zI (k:Int)),(25,.slice bbT ((vL l k).length) aOI),(26,zI ((vL l k).length:Int)),(27,zI (zz.1:Int))]) (λ(zz:Nat×(List (ak×Value))×Cells×Cells)=>[.l zz.2.2.1,.l zz.2.2.2,zxc b4 100 [zI ck,zI (s:Int),zI c2,zI c3,zI c4,zI c5,zI c6],zxc b3 24 [.slice fZ ws.length eR]]) (λ(zz:Nat×(List (ak×Value))×Cells×Cells)=>zz.1<=(vL l k).length/\g9 rm mw zz.2.1 zz.2.2.1/\zz.2.1.map (·.1)=aH S/\MV zz.2.2.2 zz.2.1 (gU ((List.range k).flatMap (uZ (s:Int) l)++(uZ (s:Int) l k).take zz.1))) (λ(zz:Nat×(List (ak×Value))×Cells×Cells)=>(vL l k).length-zz.1) (⟨0,F,LM,Z⟩) ⟨by dsimp only;omega,hI.2.1,hI.2.2.1,by simpa using hI.2.2.2⟩ (zN 0 4) ?_;rintro⟨i,F,LM,Z⟩ hJ K2 kU rest;dsimp only at hJ;refine zD 5<|zJ 28 ((i:Int) <((vL l k).length:Int)) (λh8=>?_) λh8=>?_
  ·
   refine zD 7<|zxt (vL l k) i aOI 2 bbS bbR λFK tv=>jn λCH=>jd 12 [0,3,0,3]<|zW (2*(i:Int))<|zW ((2*(i:Int))+1)<|zD 1<|zW (((2*(i:Int))+1)+(k:Int))<|zxp [zI (s:Int),zI (((2*(i:Int))+1)+(k:Int)),zI 0] (λhs=>gAt)<|zxo 13 λtx=>jn λb45=>eH tx (zN 1 5)<|zxo 14 λtw=>We (kv:=mw) (F:=F) (r:=rm) (K:=41) 2 (eV (s:Int) FK) (.slice (some ⟨b45,0,none⟩) 1 1) wV hJ.2.1 λalk aeT=>kA tw<|zD 2<|zW ((i:Int)+1)<|zD 2 ?_;have NC:=MV.upd (T:=41) (b:=b45) (y:=⟨s,2*(i:Int)+1+k,0⟩) hO hJ.2.2.2 hJ.2.2.1 hl (aks (zL tv));exact zV kU (⟨i+1,_,alk,Z++[(b45,.cells ⟨[zI (s:Int),zI (((2*(i:Int))+1)+(k:Int)),zI 0]⟩ 41 (0,0))]⟩) ⟨by dsimp only;omega,aeT,NC.2,by rw[c8 (UK tv),<-List.append_assoc];exact NC.1⟩ [[0],[3,1],[4],[5]]
  refine zD 3<|zW ((k:Int)+1)<|zD 2<|dX cU (⟨k+1,F,LM,Z⟩) ⟨by dsimp only;omega,hJ.2.1,hJ.2.2.1,by have:=hJ.2.2.2;rw[List.take_of_length_le (l:=uZ (s:Int) l k) (by rw[uZ,afP];omega)] at this;rw[anR];exact this⟩ (by dsimp only;omega) (zN 0 4) wW
 refine zD 7<|cd q0.a (zI 0) [] [0,1] (LM++Z) fq ⟨_,_,rfl,rfl,F,LM,Z,rfl,rfl,hI.2.1,hI.2.2.1,by have:=hI.2.2.2;rwa[show k=2 by omega] at this⟩
theorem IW{p:α->Bool}:∀ {l:List α} {k:Nat},bM p l k <(l.length:Int)+k
 | [],k=>by grind [bM]
 |x::l,k=>by
  simp only[bM];have:=IW (p:=p) (l:=l) (k:=k+1)
  grind
theorem avv{l:List α}{a b:Nat}{x:α}(h:x∈(l.take a).drop b):x∈l:=by grind
def FO(l:List au)(a b:Int):List au:=(l.take (b+1).toNat).drop a.toNat
def r5(s o:Int)(h:List au):List (ak×List ak):=h.zipIdx.map λp=>(eV s p.1,[⟨o,(p.2:Int)+1,0⟩])
theorem UJ{s o:Int}{h:List au}{x:au}(hx:h[i]?=some x):(r5 s o h)[i]?=some (eV s x,[⟨o,(i:Int)+1,0⟩]):=by
 grind [r5]
theorem afN{s o:Int}{h:List au}:(r5 s o h).length=h.length:=by simp[r5]
def oP(l lo:List au)(a b:Int):Int:=bif decide (a <0) then 3 else bif decide (b <0) then 3 else bif decide (b <a) then 5 else bif decide (lo.length>0) then 12 else 0
theorem I8{l lo:List au}{a:Int}(h:a <0):oP l lo a b=3:=by grind [oP,cN]
theorem I7{l lo:List au}{a:Int}(h:¬a <0)(h2:b <0):oP l lo a b=3:=by grind [oP,cX,cN]
theorem I6{l lo:List au}{a:Int}(h:¬a <0)(h2:¬b <0)(h3:b <a):oP l lo a b=5:=by grind [oP,cX,cN]
theorem I5{l lo:List au}{a:Int}(h:¬a <0)(h2:¬b <0)(h3:¬b <a)(h4:lo.length>0):oP l lo a b=12:=by grind [oP,cX,cN]
theorem court_0{l lo:List au}{a:Int}(h:¬a <0)(h2:¬b <0)(h3:¬b <a)(h4:¬lo.length>0):oP l lo a b=0:=by grind [oP,cX]
def ass{v:Value}{S:List (List au)}{s:Nat}{l lo:List au}{c3 c4:Int}{F:List (ak×Value)}(hS:bH ro v S)(hO:cq S)(hl:S[s]?=some l) (hm:g9 rm mw F LM) (hk:F.map (·.1)=aH S) (hM:MV Z F tY) (qP:S[o]?=some lo):eT zT 266 [.agg ⟨[v]⟩,.agg ⟨[zI ck,zI (s:Int),zI (o:Int),zI c3,zI c4,zI c5,zI c6]⟩,(.map (some rm))] ro (LM++Z) (λr Y=>∃F' L' Z',r= zI (oP l lo (bM (cD c3 c4) l 0) (bM (cD c5 c6) l 0))/\Y=L'++Z'/\g9 rm mw F' L'/\F'.map (·.1)=aH S/\((oP l lo (bM (cD c3 c4) l 0) (bM (cD c5 c6) l 0))=0->MV Z' F' (gU (r5 (s:Int) (o:Int) (FO l (bM (cD c3 c4) l 0) (bM (cD c5 c6) l 0)))))):=by
 obtain⟨ws,ht,dY⟩:=hS;obtain⟨fZ,xg,xe,eR,rfl,xf,ou,oh⟩:=ht;have Ar:=dY.len;have nI:=hO.two;have Bx:=(aA.1 hl).1;have Dm:=zL hl;have Ee:=hO.len _ Dm;have hso:=(aA.1 qP).1;have aqM:=zL qP;have hr:=DG (hO.ok _ aqM);have bfP:=hO.len _ aqM;refine zC [.l LM,.l Z]<|zD 2<|jn λb3=>jn λb4=>jd 8 [1,0]<|zxs ws s eR 1 ou (λx16 KC=>?_);obtain⟨C1,aS7,h17⟩:=dY.get KC;obtain aSV:=hO.len _ (zL aS7);obtain qo:C1=l:=aK (aS7.symm.trans hl);obtain⟨aoa,aFn,aFj,an9,rfl,aFl,aFm,aFk⟩:=h17;refine jl 0 (oh _ _ KC)<|jd 10 [0,0]<|zxp [.slice aoa C1.length an9,.agg ⟨[zI c3,zI c4]⟩] (λhs=>P9 ((show dk _ _ _ _ _ from ⟨aoa,aFn,aFj,an9,rfl,aFl,aFm,aFk⟩).up hs) (by first|omega| (simp only[aM,zM];omega))) ?_;refine zxp [.slice aoa C1.length an9,.agg ⟨[zI c5,zI c6]⟩] (λhs=>P9 ((show dk _ _ _ _ _ from ⟨aoa,aFn,aFj,an9,rfl,aFl,aFm,aFk⟩).up hs) (by first|omega| (simp only[aM,zM];omega))) ?_;refine zD 3 ?_;have hb1:=IW (p:=cD c3 c4) (l:=C1) (k:=0);have kV:=IW (p:=cD c5 c6) (l:=C1) (k:=0);have hb3:(((C1).take ((bM (cD c5 c6) C1 0)+1).toNat).drop (bM (cD c3 c4) C1 0).toNat).length<=C1.length:=by simp only[rD,cH];omega
 refine zD 7<|js 29 (decide ((bM (cD c3 c4) C1 0) <0)) (λh1=>?_) (λh1=>?_)
 ·
  have lF:=h1;replace lF:=ah lF;refine zD 11<|zR _ [] [2,3] _ ⟨F,LM,Z,by rw[I8 (by rw[<-qo];omega)],rfl,hm,hk,λe=>absurd ((I8 (by rw[<-qo];omega)).symm.trans e) (by decide)⟩
 have lF:=h1;replace lF:=af lF;refine zD 5<|zJ 26 ((bM (cD c5 c6) C1 0) <0) (λh2=>?_) λh2=>?_
 ·
  refine zD 6<|zR _ [] [2,3] _ ⟨F,LM,Z,by rw[I7 (by rw[<-qo];omega) (by rw[<-qo];omega)],rfl,hm,hk,λe=>absurd ((I7 (by rw[<-qo];omega) (by rw[<-qo];omega)).symm.trans e) (by decide)⟩
 refine zD 8<|zJ 33 ((bM (cD c5 c6) C1 0) <(bM (cD c3 c4) C1 0)) (λh3=>?_) λh3=>?_
 ·
  refine zD 6<|zR _ [] [2,3] _ ⟨F,LM,Z,by rw[I6 (by rw[<-qo];omega) (by rw[<-qo];omega) (by rw[<-qo];omega)],rfl,hm,hk,λe=>absurd ((I6 (by rw[<-qo];omega) (by rw[<-qo];omega) (by rw[<-qo];omega)).symm.trans e) (by decide)⟩
 refine jd 7 [1,0]<|zxs ws o eR 1 ou (λx42 Iz=>?_);obtain⟨l43,aqQ,h43⟩:=dY.get Iz;obtain brH:=hO.len _ (zL aqQ);obtain aq7:l43=lo:=aK (aqQ.symm.trans qP);obtain⟨aE9,aPf,aPc,aE8,rfl,bcl,aPe,aPd⟩:=h43;refine jl 0 (oh _ _ Iz)<|zD 4<|zJ 37 ((l43.length:Int)>0) (λh4=>?_) λh4=>?_
 ·
  refine zD 6<|zR _ [] [2,3] _ ⟨F,LM,Z,by rw[I5 (by rw[<-qo];omega) (by rw[<-qo];omega) (by rw[<-qo];omega) (by rw[<-aq7];omega)],rfl,hm,hk,λe=>absurd ((I5 (by rw[<-qo];omega) (by rw[<-qo];omega) (by rw[<-qo];omega) (by rw[<-aq7];omega)).symm.trans e) (by decide)⟩
 refine zD 8<|zW ((bM (cD c5 c6) C1 0)+1)<|jcB (lo:=(bM (cD c3 c4) C1 0)) (hi:=((bM (cD c5 c6) C1 0)+1)) (show dk _ _ _ _ _ from ⟨aoa,aFn,aFj,an9,rfl,aFl,aFm,aFk⟩) (by omega) (λv50 beQ=>?_);obtain⟨aO1,blF,blD,aAW,rfl,blE,aO0,aOZ⟩:=beQ;refine zD 4<|iz [1,1,1,1,0,1,0,0] [] (λ(zz:Nat×(List (ak×Value))×Cells×Cells)=>[(2,(.map (some rm))),(4,zP b4),(6,zI 0),(50,.slice aO1 (((((C1).take ((bM (cD c5 c6) C1 0)+1).toNat).drop (bM (cD c3 c4) C1 0).toNat)).length) aAW),(51,zI (((((C1).take ((bM (cD c5 c6) C1 0)+1).toNat).drop (bM (cD c3 c4) C1 0).toNat)).length:Int)),(52,zI (zz.1:Int))]) (λ(zz:Nat×(List (ak×Value))×Cells×Cells)=>[.l zz.2.2.1,.l zz.2.2.2,zxc b4 100 [zI ck,zI (s:Int),zI (o:Int),zI c3,zI c4,zI c5,zI c6],zxc b3 24 [.slice fZ ws.length eR]]) (λ(zz:Nat×(List (ak×Value))×Cells×Cells)=>zz.1<=(((C1).take ((bM (cD c5 c6) C1 0)+1).toNat).drop (bM (cD c3 c4) C1 0).toNat).length/\g9 rm mw zz.2.1 zz.2.2.1/\zz.2.1.map (·.1)=aH S/\MV zz.2.2.2 zz.2.1 (gU ((r5 (s:Int) (o:Int) (((C1).take ((bM (cD c5 c6) C1 0)+1).toNat).drop (bM (cD c3 c4) C1 0).toNat)).take zz.1))) (λ(zz:Nat×(List (ak×Value))×Cells×Cells)=>(((C1).take ((bM (cD c5 c6) C1 0)+1).toNat).drop (bM (cD c3 c4) C1 0).toNat).length-zz.1) (⟨0,F,LM,Z⟩) ⟨by dsimp only;omega,hm,hk,hM⟩ [2,3,0,1] ?_;rintro⟨i,F,LM,Z⟩ hI K1 cU rest;dsimp only at hI;refine zD 5<|zJ 53 ((i:Int) <(((((C1).take ((bM (cD c5 c6) C1 0)+1).toNat).drop (bM (cD c3 c4) C1 0).toNat)).length:Int)) (λh5=>?_) λh5=>?_
 ·
  refine zD 7<|zxt (((C1).take ((bM (cD c5 c6) C1 0)+1).toNat).drop (bM (cD c3 c4) C1 0).toNat) i aAW 2 aO0 aOZ λx55 axM=>jn λwM=>jd 12 [0,3,0,3]<|zW ((i:Int)+1)<|zxp [zI (o:Int),zI ((i:Int)+1),zI 0] (λhs=>gAt)<|zxo 10 λC7=>jn λb67=>eH C7 (zN 1 5)<|zxo 11 λtx=>We (kv:=mw) (F:=F) (r:=rm) (K:=41) 2 (eV (s:Int) x55) (.slice (some ⟨b67,0,none⟩) 1 1) wV hI.2.1 λLm8 hm8=>kA tx<|zD 2<|zW ((i:Int)+1)<|zD 2 ?_;have NC:=MV.upd (T:=41) (b:=b67) (y:=⟨o,(i:Int)+1,0⟩) hO hI.2.2.2 hI.2.2.1 hl (qo▸avv (zL axM));exact zV cU (⟨i+1,_,Lm8,Z++[(b67,.cells ⟨[zI (o:Int),zI ((i:Int)+1),zI 0]⟩ 41 (0,0))]⟩) ⟨by dsimp only;omega,hm8,NC.2,by rw[c8 (UJ axM)];exact NC.1⟩ [[0],[3,1],[4],[5]]
 refine zD 7 ?_;have Ys:=court_0 (l:=l) (lo:=lo) (a:=bM (cD c3 c4) l 0) (b:=bM (cD c5 c6) l 0) (by rw[<-qo];omega) (by rw[<-qo];omega) (by rw[<-qo];omega) (by rw[<-aq7];omega);exact zR _ [] [0,1] _ ⟨F,LM,Z,by rw[Ys],rfl,hI.2.1,hI.2.2.1,λ_=>by have:=hI.2.2.2;rw[bF (by rw[afN];omega),qo] at this;exact this⟩
def qQ{lo:Int}(h:lo<=n/\n<=hi):iI zT 164 [zI n,zI lo,zI hi] ro (.bool true):=by
 have h1:=ayv (n:=n) (lo:=lo) (hi:=hi) (ro:=ro);rwa[show pE n lo hi=true by simp only[pE,av,aC];exact h] at h1
def QQ:iI zT 224 [] ro (.agg ⟨[.nilFunc,.func (.func 260) ⟨[]⟩ ⟨[]⟩,.func (.func 261) ⟨[]⟩ ⟨[]⟩,.func (.func 262) ⟨[]⟩ ⟨[]⟩,.func (.func 263) ⟨[]⟩ ⟨[]⟩,.func (.func 264) ⟨[]⟩ ⟨[]⟩,.func (.func 265) ⟨[]⟩ ⟨[]⟩,.func (.func 266) ⟨[]⟩ ⟨[]⟩]⟩):=by
 refine zE<|zD 2<|jn λb0=>jd 7 [0]<|zR _ [0] [] [] ⟨rfl,rfl⟩
def aJU{v:Value}{S:List (List au)}{s:Nat}{l:List au}(hS:bH ro v S)(hO:cq S)(hl:S[s]?=some l):eT zT 170 [.agg ⟨[v]⟩,.agg ⟨[zI 1,zI (s:Int),zI 0,zI 0,zI 0,zI 0,zI 0]⟩] ro [] (λr Y=>((((0):Int)≠0/\r= .tuple ⟨[.map none,zI (0)]⟩/\Y=[])\/(((0):Int)=0/\∃rm F LM Z,r= .tuple ⟨[.map (some rm),zI 0]⟩/\Y=LM++Z/\g9 rm mw F LM/\F.map (·.1)=aH S/\MV Z F (gU (Mo (s:Int) l))))):=by
 have nI:=hO.two;have nP:=hS;obtain⟨ws,ht,dY⟩:=hS;obtain⟨fZ,xg,xe,eR,rfl,xf,ou,oh⟩:=ht;have Ar:=dY.len;have Bx:=(aA.1 hl).1;refine zE<|zD 2<|jn λb2=>jn λb3=>jd 8 [0]<|zxp [zI 1,zI 1,zI 7] (λhs=>qQ (by omega))<|jd 17 [1,0]<|zW ((ws.length:Int)-1)<|zxp [zI (s:Int),zI 0,zI ((ws.length:Int)-1)] (λhs=>qQ (by omega))<|jd 70 [0,0,0,0,0,0]<|jne GY (yz 0 0 0 0)<|zD 3<|js 73 (!(0==0&&(0==0&&true))) (λh1=>?_) (λh1=>?_)
 ·
  have lF:=h1
  try simp only[zB] at lF
  exact absurd lF (by decide)
 have lF:=h1
 try simp only[zB] at lF
 refine jd 6 [0]<|jne GY (yz 0 0 0 0)<|zD 3<|js 82 (!(0==0&&(0==0&&true))) (λh2=>?_) (λh2=>?_)
 ·
  exact absurd h2 (by decide)
 refine jd 5 [1]<|jc (vs:=[.agg ⟨[.slice fZ ws.length eR]⟩]) [] (MX (nP) hO) ?_;rintro _ _ ⟨rm,F,LM,Z,rfl,rfl,hmM,hkM,hMM⟩;refine jg 0 [.l LM,.l Z]<|jd 10 [2,3,2]<|zxr (λhs=>QQ)<|zD 1<|zxo 7 λuk=>jc (vs:=[.agg ⟨[.slice fZ ws.length eR]⟩,.agg ⟨[zI 1,zI (s:Int),zI 0,zI 0,zI 0,zI 0,zI 0]⟩,(.map (some rm))]) [0,1] (ayq (s:=s) nP hO hl hmM hkM hMM) ?_;rintro _ _ ⟨F2,Mb,Z2,rfl,rfl,yN,iu,hM2⟩;refine jg 0 [.l Mb,.l Z2]<|ee uk [[2]]<|zD 16<|zR _ [] [0,1] _ (.inr ⟨rfl,rm,F2,Mb,Z2,rfl,rfl,yN,iu,hM2⟩)
def aJT{v:Value}{S:List (List au)}{s:Nat}{l:List au}(hS:bH ro v S)(hO:cq S)(hl:S[s]?=some l):eT zT 170 [.agg ⟨[v]⟩,.agg ⟨[zI 2,zI (s:Int),zI 0,zI 0,zI 0,zI 0,zI 0]⟩] ro [] (λr Y=>((((0):Int)≠0/\r= .tuple ⟨[.map none,zI (0)]⟩/\Y=[])\/(((0):Int)=0/\∃rm F LM Z,r= .tuple ⟨[.map (some rm),zI 0]⟩/\Y=LM++Z/\g9 rm mw F LM/\F.map (·.1)=aH S/\MV Z F (gU (Gf (s:Int) l))))):=by
 have nI:=hO.two;have nP:=hS;obtain⟨ws,ht,dY⟩:=hS;obtain⟨fZ,xg,xe,eR,rfl,xf,ou,oh⟩:=ht;have Ar:=dY.len;have Bx:=(aA.1 hl).1;refine zE<|zD 2<|jn λb2=>jn λb3=>jd 8 [0]<|zxp [zI 2,zI 1,zI 7] (λhs=>qQ (by omega))<|jd 17 [1,0]<|zW ((ws.length:Int)-1)<|zxp [zI (s:Int),zI 0,zI ((ws.length:Int)-1)] (λhs=>qQ (by omega))<|jd 70 [0,0,0,0,0,0]<|jne GY (yz 0 0 0 0)<|zD 3<|js 73 (!(0==0&&(0==0&&true))) (λh1=>?_) (λh1=>?_)
 ·
  have lF:=h1
  try simp only[zB] at lF
  exact absurd lF (by decide)
 have lF:=h1
 try simp only[zB] at lF
 refine jd 6 [0]<|jne GY (yz 0 0 0 0)<|zD 3<|js 82 (!(0==0&&(0==0&&true))) (λh2=>?_) (λh2=>?_)
 ·
  exact absurd h2 (by decide)
 refine jd 5 [1]<|jc (vs:=[.agg ⟨[.slice fZ ws.length eR]⟩]) [] (MX (nP) hO) ?_;rintro _ _ ⟨rm,F,LM,Z,rfl,rfl,hmM,hkM,hMM⟩;refine jg 0 [.l LM,.l Z]<|jd 10 [2,3,2]<|zxr (λhs=>QQ)<|zD 1<|zxo 7 λuk=>jc (vs:=[.agg ⟨[.slice fZ ws.length eR]⟩,.agg ⟨[zI 2,zI (s:Int),zI 0,zI 0,zI 0,zI 0,zI 0]⟩,(.map (some rm))]) [0,1] (asq (s:=s) nP hO hl hmM hkM hMM) ?_;rintro _ _ ⟨F2,Mb,Z2,rfl,rfl,yN,iu,hM2⟩;refine jg 0 [.l Mb,.l Z2]<|ee uk [[2]]<|zD 16<|zR _ [] [0,1] _ (.inr ⟨rfl,rm,F2,Mb,Z2,rfl,rfl,yN,iu,hM2⟩)
def aJS{v:Value}{S:List (List au)}{s:Nat}{l:List au}(hS:bH ro v S)(hO:cq S)(hl:S[s]?=some l):eT zT 170 [.agg ⟨[v]⟩,.agg ⟨[zI 3,zI (s:Int),zI 0,zI 0,zI 0,zI 0,zI 0]⟩] ro [] (λr Y=>((((0):Int)≠0/\r= .tuple ⟨[.map none,zI (0)]⟩/\Y=[])\/(((0):Int)=0/\∃rm F LM Z,r= .tuple ⟨[.map (some rm),zI 0]⟩/\Y=LM++Z/\g9 rm mw F LM/\F.map (·.1)=aH S/\MV Z F (gU (Ez (s:Int) l))))):=by
 have nI:=hO.two;have nP:=hS;obtain⟨ws,ht,dY⟩:=hS;obtain⟨fZ,xg,xe,eR,rfl,xf,ou,oh⟩:=ht;have Ar:=dY.len;have Bx:=(aA.1 hl).1;refine zE<|zD 2<|jn λb2=>jn λb3=>jd 8 [0]<|zxp [zI 3,zI 1,zI 7] (λhs=>qQ (by omega))<|jd 17 [1,0]<|zW ((ws.length:Int)-1)<|zxp [zI (s:Int),zI 0,zI ((ws.length:Int)-1)] (λhs=>qQ (by omega))<|jd 70 [0,0,0,0,0,0]<|jne GY (yz 0 0 0 0)<|zD 3<|js 73 (!(0==0&&(0==0&&true))) (λh1=>?_) (λh1=>?_)
 ·
  have lF:=h1
  try simp only[zB] at lF
  exact absurd lF (by decide)
 have lF:=h1
 try simp only[zB] at lF
 refine jd 6 [0]<|jne GY (yz 0 0 0 0)<|zD 3<|js 82 (!(0==0&&(0==0&&true))) (λh2=>?_) (λh2=>?_)
 ·
  exact absurd h2 (by decide)
 refine jd 5 [1]<|jc (vs:=[.agg ⟨[.slice fZ ws.length eR]⟩]) [] (MX (nP) hO) ?_;rintro _ _ ⟨rm,F,LM,Z,rfl,rfl,hmM,hkM,hMM⟩;refine jg 0 [.l LM,.l Z]<|jd 10 [2,3,2]<|zxr (λhs=>QQ)<|zD 1<|zxo 7 λuk=>jc (vs:=[.agg ⟨[.slice fZ ws.length eR]⟩,.agg ⟨[zI 3,zI (s:Int),zI 0,zI 0,zI 0,zI 0,zI 0]⟩,(.map (some rm))]) [0,1] (ast (s:=s) nP hO hl hmM hkM hMM) ?_;rintro _ _ ⟨F2,Mb,Z2,rfl,rfl,yN,iu,hM2⟩;refine jg 0 [.l Mb,.l Z2]<|ee uk [[2]]<|zD 16<|zR _ [] [0,1] _ (.inr ⟨rfl,rm,F2,Mb,Z2,rfl,rfl,yN,iu,hM2⟩)
def aJR{v:Value}{S:List (List au)}{s:Nat}{l:List au}{lo:List au}(hS:bH ro v S)(hO:cq S)(hl:S[s]?=some l) (qP:S[o]?=some lo) (eA:s≠o):eT zT 170 [.agg ⟨[v]⟩,.agg ⟨[zI 4,zI (s:Int),zI (o:Int),zI 0,zI 0,zI 0,zI 0]⟩] ro [] (λr Y=>(((((sC l lo)):Int)≠0/\r= .tuple ⟨[.map none,zI ((sC l lo))]⟩/\Y=[])\/((((sC l lo)):Int)=0/\∃rm F LM Z,r= .tuple ⟨[.map (some rm),zI 0]⟩/\Y=LM++Z/\g9 rm mw F LM/\F.map (·.1)=aH S/\MV Z F (gU (Ix (s:Int) (o:Int) l (gW lo)))))):=by
 have nI:=hO.two;have nP:=hS;obtain⟨ws,ht,dY⟩:=hS;obtain⟨fZ,xg,xe,eR,rfl,xf,ou,oh⟩:=ht;have Ar:=dY.len;have Bx:=(aA.1 hl).1;have hso:=(aA.1 qP).1;refine zE<|zD 2<|jn λb2=>jn λb3=>jd 8 [0]<|zxp [zI 4,zI 1,zI 7] (λhs=>qQ (by omega))<|jd 17 [1,0]<|zW ((ws.length:Int)-1)<|zxp [zI (s:Int),zI 0,zI ((ws.length:Int)-1)] (λhs=>qQ (by omega))<|jd 32 [0,0,0,0]<|zW ((ws.length:Int)-1)<|zxp [zI (o:Int),zI 0,zI ((ws.length:Int)-1)] (λhs=>qQ (by omega))<|jd 17 [0,0]<|zJ 55 ((o:Int)=(s:Int)) (λh1=>?_) λh1=>?_
 ·
  exfalso;omega
 refine jd 19 [0]<|jne GY (yz 0 0 0 0)<|zD 3<|js 73 (!(0==0&&(0==0&&true))) (λh2=>?_) (λh2=>?_)
 ·
  have nu:=h2
  try simp only[zB] at nu
  exact absurd nu (by decide)
 have nu:=h2
 try simp only[zB] at nu
 refine jd 6 [0]<|jne GY (yz 0 0 0 0)<|zD 3<|js 82 (!(0==0&&(0==0&&true))) (λh3=>?_) (λh3=>?_)
 ·
  exact absurd h3 (by decide)
 refine jd 5 [1]<|jc (vs:=[.agg ⟨[.slice fZ ws.length eR]⟩]) [] (MX (nP) hO) ?_;rintro _ _ ⟨rm,F,LM,Z,rfl,rfl,hmM,hkM,hMM⟩;refine jg 0 [.l LM,.l Z]<|jd 10 [2,3,2]<|zxr (λhs=>QQ)<|zD 1<|zxo 7 λuk=>jc (vs:=[.agg ⟨[.slice fZ ws.length eR]⟩,.agg ⟨[zI 4,zI (s:Int),zI (o:Int),zI 0,zI 0,zI 0,zI 0]⟩,(.map (some rm))]) [0,1] (ayr (s:=s) (o:=o) nP hO hl hmM hkM hMM qP) ?_;rintro _ _ ⟨F2,Mb,Z2,rfl,rfl,yN,iu,hM2⟩;refine jg 0 [.l Mb,.l Z2]<|ee uk [[2]]<|zD 7<|js 94 (!decide ((sC l lo)=0)) (λh5=>?_) (λh5=>?_)
 ·
  replace h5:=af (by simpa using h5);refine zD 8<|zX _ (.inl ⟨by first|assumption| (simp_all;done),rfl,rfl⟩)
 replace h5:=ah (by simpa using h5);refine zD 9<|zR _ [] [0,1] _ (.inr ⟨by first|assumption| (simp_all;done),rm,F2,Mb,Z2,rfl,rfl,yN,iu,hM2 (by first|assumption| (simp_all;done))⟩)
def aJQ{v:Value}{S:List (List au)}{s:Nat}{l:List au}{c3 c4:Int}(hS:bH ro v S)(hO:cq S)(hl:S[s]?=some l):eT zT 170 [.agg ⟨[v]⟩,.agg ⟨[zI 5,zI (s:Int),zI 0,zI c3,zI c4,zI 0,zI 0]⟩] ro [] (λr Y=>(((((Ex l c3 c4)):Int)≠0/\r= .tuple ⟨[.map none,zI ((Ex l c3 c4))]⟩/\Y=[])\/((((Ex l c3 c4)):Int)=0/\∃rm F LM Z,r= .tuple ⟨[.map (some rm),zI 0]⟩/\Y=LM++Z/\g9 rm mw F LM/\F.map (·.1)=aH S/\MV Z F (gU (Ls (s:Int) l c3 c4))))):=by
 have nI:=hO.two;have nP:=hS;obtain⟨ws,ht,dY⟩:=hS;obtain⟨fZ,xg,xe,eR,rfl,xf,ou,oh⟩:=ht;have Ar:=dY.len;have Bx:=(aA.1 hl).1;refine zE<|zD 2<|jn λb2=>jn λb3=>jd 8 [0]<|zxp [zI 5,zI 1,zI 7] (λhs=>qQ (by omega))<|jd 17 [1,0]<|zW ((ws.length:Int)-1)<|zxp [zI (s:Int),zI 0,zI ((ws.length:Int)-1)] (λhs=>qQ (by omega))<|jd 80 [0,0,0,0,0,0]<|jne GY (yz 0 0 0 0)<|zD 3<|js 82 (!(0==0&&(0==0&&true))) (λh1=>?_) (λh1=>?_)
 ·
  exact absurd h1 (by decide)
 refine jd 5 [1]<|jc (vs:=[.agg ⟨[.slice fZ ws.length eR]⟩]) [] (MX (nP) hO) ?_;rintro _ _ ⟨rm,F,LM,Z,rfl,rfl,hmM,hkM,hMM⟩;refine jg 0 [.l LM,.l Z]<|jd 10 [2,3,2]<|zxr (λhs=>QQ)<|zD 1<|zxo 7 λuk=>jc (vs:=[.agg ⟨[.slice fZ ws.length eR]⟩,.agg ⟨[zI 5,zI (s:Int),zI 0,zI c3,zI c4,zI 0,zI 0]⟩,(.map (some rm))]) [0,1] (asr (s:=s) nP hO hl hmM hkM hMM) ?_;rintro _ _ ⟨F2,Mb,Z2,rfl,rfl,yN,iu,hM2⟩;refine jg 0 [.l Mb,.l Z2]<|ee uk [[2]]<|zD 7<|js 94 (!decide ((Ex l c3 c4)=0)) (λh3=>?_) (λh3=>?_)
 ·
  replace h3:=af (by simpa using h3);refine zD 8<|zX _ (.inl ⟨by first|assumption| (simp_all;done),rfl,rfl⟩)
 replace h3:=ah (by simpa using h3);refine zD 9<|zR _ [] [0,1] _ (.inr ⟨by first|assumption| (simp_all;done),rm,F2,Mb,Z2,rfl,rfl,yN,iu,hM2 (by first|assumption| (simp_all;done))⟩)
def aJP{v:Value}{S:List (List au)}{s:Nat}{l:List au}{c3 c4:Int}(hS:bH ro v S)(hO:cq S)(hl:S[s]?=some l):eT zT 170 [.agg ⟨[v]⟩,.agg ⟨[zI 6,zI (s:Int),zI 0,zI c3,zI c4,zI 0,zI 0]⟩] ro [] (λr Y=>(((((Bm l c3 c4)):Int)≠0/\r= .tuple ⟨[.map none,zI ((Bm l c3 c4))]⟩/\Y=[])\/((((Bm l c3 c4)):Int)=0/\∃rm F LM Z,r= .tuple ⟨[.map (some rm),zI 0]⟩/\Y=LM++Z/\g9 rm mw F LM/\F.map (·.1)=aH S/\MV Z F (gU ([(⟨s,c3,c4⟩,[])]))))):=by
 have nI:=hO.two;have nP:=hS;obtain⟨ws,ht,dY⟩:=hS;obtain⟨fZ,xg,xe,eR,rfl,xf,ou,oh⟩:=ht;have Ar:=dY.len;have Bx:=(aA.1 hl).1;refine zE<|zD 2<|jn λb2=>jn λb3=>jd 8 [0]<|zxp [zI 6,zI 1,zI 7] (λhs=>qQ (by omega))<|jd 17 [1,0]<|zW ((ws.length:Int)-1)<|zxp [zI (s:Int),zI 0,zI ((ws.length:Int)-1)] (λhs=>qQ (by omega))<|jd 80 [0,0,0,0,0,0]<|jne GY (yz 0 0 0 0)<|zD 3<|js 82 (!(0==0&&(0==0&&true))) (λh1=>?_) (λh1=>?_)
 ·
  exact absurd h1 (by decide)
 refine jd 5 [1]<|jc (vs:=[.agg ⟨[.slice fZ ws.length eR]⟩]) [] (MX (nP) hO) ?_;rintro _ _ ⟨rm,F,LM,Z,rfl,rfl,hmM,hkM,hMM⟩;refine jg 0 [.l LM,.l Z]<|jd 10 [2,3,2]<|zxr (λhs=>QQ)<|zD 1<|zxo 7 λuk=>jc (vs:=[.agg ⟨[.slice fZ ws.length eR]⟩,.agg ⟨[zI 6,zI (s:Int),zI 0,zI c3,zI c4,zI 0,zI 0]⟩,(.map (some rm))]) [0,1] (ays (s:=s) nP hO hl hmM hkM hMM) ?_;rintro _ _ ⟨F2,Mb,Z2,rfl,rfl,yN,iu,hM2⟩;refine jg 0 [.l Mb,.l Z2]<|ee uk [[2]]<|zD 7<|js 94 (!decide ((Bm l c3 c4)=0)) (λh3=>?_) (λh3=>?_)
 ·
  replace h3:=af (by simpa using h3);refine zD 8<|zX _ (.inl ⟨by first|assumption| (simp_all;done),rfl,rfl⟩)
 replace h3:=ah (by simpa using h3);refine zD 9<|zR _ [] [0,1] _ (.inr ⟨by first|assumption| (simp_all;done),rm,F2,Mb,Z2,rfl,rfl,yN,iu,hM2 (by first|assumption| (simp_all;done))⟩)
def aJO{v:Value}{S:List (List au)}{s:Nat}{l:List au}{lo:List au}{c3 c4:Int}(hS:bH ro v S)(hO:cq S)(hl:S[s]?=some l) (qP:S[o]?=some lo) (eA:s≠o):eT zT 170 [.agg ⟨[v]⟩,.agg ⟨[zI 7,zI (s:Int),zI (o:Int),zI c3,zI c4,zI c5,zI c6]⟩] ro [] (λr Y=>(((((oP l lo (bM (cD c3 c4) l 0) (bM (cD c5 c6) l 0))):Int)≠0/\r= .tuple ⟨[.map none,zI ((oP l lo (bM (cD c3 c4) l 0) (bM (cD c5 c6) l 0)))]⟩/\Y=[])\/((((oP l lo (bM (cD c3 c4) l 0) (bM (cD c5 c6) l 0))):Int)=0/\∃rm F LM Z,r= .tuple ⟨[.map (some rm),zI 0]⟩/\Y=LM++Z/\g9 rm mw F LM/\F.map (·.1)=aH S/\MV Z F (gU (r5 (s:Int) (o:Int) (FO l (bM (cD c3 c4) l 0) (bM (cD c5 c6) l 0))))))):=by
 have nI:=hO.two;have nP:=hS;obtain⟨ws,ht,dY⟩:=hS;obtain⟨fZ,xg,xe,eR,rfl,xf,ou,oh⟩:=ht;have Ar:=dY.len;have Bx:=(aA.1 hl).1;have hso:=(aA.1 qP).1;refine zE<|zD 2<|jn λb2=>jn λb3=>jd 8 [0]<|zxp [zI 7,zI 1,zI 7] (λhs=>qQ (by omega))<|jd 17 [1,0]<|zW ((ws.length:Int)-1)<|zxp [zI (s:Int),zI 0,zI ((ws.length:Int)-1)] (λhs=>qQ (by omega))<|jd 32 [0,0,0,0,0]<|zW ((ws.length:Int)-1)<|zxp [zI (o:Int),zI 0,zI ((ws.length:Int)-1)] (λhs=>qQ (by omega))<|jd 17 [0,0]<|zJ 55 ((o:Int)=(s:Int)) (λh1=>?_) λh1=>?_
 ·
  exfalso;omega
 refine jd 38 [1]<|jc (vs:=[.agg ⟨[.slice fZ ws.length eR]⟩]) [] (MX (nP) hO) ?_;rintro _ _ ⟨rm,F,LM,Z,rfl,rfl,hmM,hkM,hMM⟩;refine jg 0 [.l LM,.l Z]<|jd 10 [2,3,2]<|zxr (λhs=>QQ)<|zD 1<|zxo 7 λuk=>jc (vs:=[.agg ⟨[.slice fZ ws.length eR]⟩,.agg ⟨[zI 7,zI (s:Int),zI (o:Int),zI c3,zI c4,zI c5,zI c6]⟩,(.map (some rm))]) [0,1] (ass (s:=s) (o:=o) nP hO hl hmM hkM hMM qP) ?_;rintro _ _ ⟨F2,Mb,Z2,rfl,rfl,yN,iu,hM2⟩;refine jg 0 [.l Mb,.l Z2]<|ee uk [[2]]<|zD 7<|js 94 (!decide ((oP l lo (bM (cD c3 c4) l 0) (bM (cD c5 c6) l 0))=0)) (λh3=>?_) (λh3=>?_)
 ·
  replace h3:=af (by simpa using h3);refine zD 8<|zX _ (.inl ⟨by first|assumption| (simp_all;done),rfl,rfl⟩)
 replace h3:=ah (by simpa using h3);refine zD 9<|zR _ [] [0,1] _ (.inr ⟨by first|assumption| (simp_all;done),rm,F2,Mb,Z2,rfl,rfl,yN,iu,hM2 (by first|assumption| (simp_all;done))⟩)
def aJM{v:Value}{S:List (List au)}{s:Nat}{l:List au}(hS:bH ro v S)(hO:cq S)(hl:S[s]?=some l):eT zT 170 [.agg ⟨[v]⟩,.agg ⟨[zI 4,zI (s:Int),zI (s:Int),zI 0,zI 0,zI 0,zI 0]⟩] ro [] (λr Y=>r= .tuple ⟨[.map none,zI 4]⟩/\Y=[]):=by
 have nI:=hO.two;obtain⟨ws,ht,dY⟩:=hS;obtain⟨fZ,xg,xe,eR,rfl,xf,ou,oh⟩:=ht;have Ar:=dY.len;have Bx:=(aA.1 hl).1;refine zE<|zD 2<|jn λb2=>jn λb3=>jd 8 [0]<|zxp [zI 4,zI 1,zI 7] (λhs=>qQ (by omega))<|jd 17 [1,0]<|zW ((ws.length:Int)-1)<|zxp [zI (s:Int),zI 0,zI ((ws.length:Int)-1)] (λhs=>qQ (by omega))<|jd 32 [0,0,0,0]<|zW ((ws.length:Int)-1)<|zxp [zI (s:Int),zI 0,zI ((ws.length:Int)-1)] (λhs=>qQ (by omega))<|jd 17 [0,0]<|zJ 55 ((s:Int)=(s:Int)) (λh1=>?_) λh1=>?_
 ·
  refine zD 7<|zX _ ⟨rfl,rfl⟩
 exact absurd rfl (by assumption)
def aJL{v:Value}{S:List (List au)}{s:Nat}{l:List au}{c3 c4:Int}(hS:bH ro v S)(hO:cq S)(hl:S[s]?=some l):eT zT 170 [.agg ⟨[v]⟩,.agg ⟨[zI 7,zI (s:Int),zI (s:Int),zI c3,zI c4,zI c5,zI c6]⟩] ro [] (λr Y=>r= .tuple ⟨[.map none,zI 4]⟩/\Y=[]):=by
 have nI:=hO.two;obtain⟨ws,ht,dY⟩:=hS;obtain⟨fZ,xg,xe,eR,rfl,xf,ou,oh⟩:=ht;have Ar:=dY.len;have Bx:=(aA.1 hl).1;refine zE<|zD 2<|jn λb2=>jn λb3=>jd 8 [0]<|zxp [zI 7,zI 1,zI 7] (λhs=>qQ (by omega))<|jd 17 [1,0]<|zW ((ws.length:Int)-1)<|zxp [zI (s:Int),zI 0,zI ((ws.length:Int)-1)] (λhs=>qQ (by omega))<|jd 32 [0,0,0,0,0]<|zW ((ws.length:Int)-1)<|zxp [zI (s:Int),zI 0,zI ((ws.length:Int)-1)] (λhs=>qQ (by omega))<|jd 17 [0,0]<|zJ 55 ((s:Int)=(s:Int)) (λh1=>?_) λh1=>?_
 ·
  refine zD 7<|zX _ ⟨rfl,rfl⟩
 exact absurd rfl (by assumption)
structure n9(S:List (List au))(c:aT):Prop where
 k:1<=c.k/\c.k<=7
 st:0<=c.st/\c.st <S.length
 ot:(c.k=4\/c.k=7)->0<=c.ot/\c.ot <S.length
 no:¬(c.k=4\/c.k=7)->c.ot=0
 fr:c.k <5->c.fn=0/\c.fl=0
 to:c.k≠7->c.tn=0/\c.tl=0
def Ag(S:List (List au))(i:Int):List au:=S[i.toNat]?.getD []
def iO(S:List (List au))(c:aT):Int:=
 if (c.k=4\/c.k=7)/\c.ot=c.st then 4 else if c.k=4 then sC (Ag S c.st) (Ag S c.ot) else if c.k=5 then Ex (Ag S c.st) c.fn c.fl else if c.k=6 then Bm (Ag S c.st) c.fn c.fl
 else if c.k=7 then oP (Ag S c.st) (Ag S c.ot) (bM (cD c.fn c.fl) (Ag S c.st) 0) (bM (cD c.tn c.tl) (Ag S c.st) 0) else 0
def yA(S:List (List au))(c:aT):List (ak×List ak):=
 if c.k=1 then Mo c.st (Ag S c.st) else if c.k=2 then Gf c.st (Ag S c.st) else if c.k=3 then Ez c.st (Ag S c.st) else if c.k=4 then Ix c.st c.ot (Ag S c.st) (gW (Ag S c.ot))
 else if c.k=5 then Ls c.st (Ag S c.st) c.fn c.fl else if c.k=6 then [(⟨c.st,c.fn,c.fl⟩,[])] else r5 c.st c.ot (FO (Ag S c.st) (bM (cD c.fn c.fl) (Ag S c.st) 0) (bM (cD c.tn c.tl) (Ag S c.st) 0))
def gk(S:List (List au))(c:aT)(x:ak):List ak:=gU (yA S c) x
theorem uC{S:List (List au)}{l:List au}(h:S[i]?=some l):Ag S (i:Int)=l:=by grind [Ag,Int.toNat_natCast]
def aUJ{v:Value}{S:List (List au)}{c:aT}(hc:n9 S c)(hS:bH ro v S)(hO:cq S):eT zT 170 [.agg ⟨[v]⟩,.agg ⟨p6 c⟩] ro [] (λr Y=>
 (iO S c≠0/\r= .tuple ⟨[.map none,zI (iO S c)]⟩/\Y=[])\/(iO S c=0/\∃rm F LM Z,r= .tuple ⟨[.map (some rm),zI 0]⟩/\Y=LM++Z/\g9 rm mw F LM/\F.map (·.1)=aH S/\MV Z F (gk S c))):=by
 obtain⟨k,st,ot,fn,fl,tn,tl⟩:=c;obtain⟨hk,dt,hot,wX,SX,SM⟩:=hc;dsimp only at hk dt hot wX SX SM;obtain⟨s,rfl⟩:=Int.eq_ofNat_of_zero_le dt.1;obtain⟨l,hl⟩:∃l,S[s]?=some l:=⟨_,List.getElem?_eq_getElem (by omega)⟩;have e1:=uC hl;have mA:k=1\/k=2\/k=3\/k=4\/k=5\/k=6\/k=7:=by omega
 have fin:∀ {a:List Value} {e e':Int} {u u':List (ak×List ak)},e=e'->u=u'->eT zT 170 a ro [] (λr Y=>((e≠0/\r= .tuple ⟨[.map none,zI e]⟩/\Y=[])\/(e=0/\∃rm F LM Z,r= .tuple ⟨[.map (some rm),zI 0]⟩/\Y=LM++Z/\g9 rm mw F LM/\F.map (·.1)=aH S/\MV Z F (gU u))))->
  eT zT 170 a ro [] (λr Y=>((e'≠0/\r= .tuple ⟨[.map none,zI e']⟩/\Y=[])\/(e'=0/\∃rm F LM Z,r= .tuple ⟨[.map (some rm),zI 0]⟩/\Y=LM++Z/\g9 rm mw F LM/\F.map (·.1)=aH S/\MV Z F (gU u')))):=λh1 h2 h=>by subst h1;subst h2;exact h
 rcases mA with rfl|rfl|rfl|rfl|rfl|rfl|rfl
 .obtain rfl:=wX (by decide);obtain⟨rfl,rfl⟩:=SX (by decide);obtain⟨rfl,rfl⟩:=SM (by decide);exact fin (e:=0) (u:=Mo (s:Int) l) (by simp[iO]) (by simp[yA,e1]) (aJU hS hO hl)
 .obtain rfl:=wX (by decide);obtain⟨rfl,rfl⟩:=SX (by decide);obtain⟨rfl,rfl⟩:=SM (by decide);exact fin (e:=0) (u:=Gf (s:Int) l) (by simp[iO]) (by simp[yA,e1]) (aJT hS hO hl)
 .obtain rfl:=wX (by decide);obtain⟨rfl,rfl⟩:=SX (by decide);obtain⟨rfl,rfl⟩:=SM (by decide);exact fin (e:=0) (u:=Ez (s:Int) l) (by simp[iO]) (by simp[yA,e1]) (aJS hS hO hl)
 .obtain⟨rfl,rfl⟩:=SX (by decide);obtain⟨rfl,rfl⟩:=SM (by decide);have ho:=hot (.inl rfl);obtain⟨o,rfl⟩:=dR ho.1;obtain⟨lo,qP⟩:∃l,S[o]?=some l:=⟨_,ai (by omega)⟩;have e2:=uC qP;by_cases eA:s=o
  .subst eA;have he:iO S ⟨4,(s:Int),(s:Int),0,0,0,0⟩=4:=by simp[iO]
   refine(aJM hS hO hl).mono λr Y h=> .inl ⟨by rw[he];decide,by rw[he];exact h.1,h.2⟩
  exact fin (by simp[iO,e1,e2,show ¬((o:Int)=s) by omega]) (by simp[yA,e1,e2]) (aJR hS hO hl qP eA)
 .obtain rfl:=wX (by decide);obtain⟨rfl,rfl⟩:=SM (by decide);exact fin (by simp[iO,e1]) (by simp[yA,e1]) (aJQ hS hO hl)
 .obtain rfl:=wX (by decide);obtain⟨rfl,rfl⟩:=SM (by decide);exact fin (by simp[iO,e1]) (by simp[yA]) (aJP hS hO hl)
 have ho:=hot (.inr rfl);obtain⟨o,rfl⟩:=dR ho.1;obtain⟨lo,qP⟩:∃l,S[o]?=some l:=⟨_,ai (by omega)⟩;have e2:=uC qP;by_cases eA:s=o
 .subst eA;have he:iO S ⟨7,(s:Int),(s:Int),fn,fl,tn,tl⟩=4:=by simp[iO]
  refine(aJL hS hO hl).mono λr Y h=> .inl ⟨by rw[he];decide,by rw[he];exact h.1,h.2⟩
 exact fin (by simp[iO,e1,e2,show ¬((o:Int)=s) by omega]) (by simp[yA,e1,e2]) (aJO hS hO hl qP eA)
def ajP(n:Nat):Int:=if n=0 then 0 else if n <2 then 1 else if n <4 then 2 else if n <8 then 3 else 4
def aJI:∀ {n:Nat},n<=12->iI zT 194 [zU (n:Int)] ro (zI (ajP n))
 |0,_=>by refine dB bD [] [] de (zD 35 (ja 0 (by decide) (zD 3 ?_)));exact cd q0 (zI 0) [] [] [] (Sub.refl _) ⟨_,_,rfl,rfl,rfl,rfl⟩
 |1,_=>by refine dB bD [] [] de (zD 35 (ja 1 (by decide) (zD 3 ?_)));exact cd q0 (zI 1) [] [] [] (Sub.refl _) ⟨_,_,rfl,rfl,rfl,rfl⟩
 |2,_=>by refine dB bD [] [] de (zD 35 (ja 2 (by decide) (zD 3 ?_)));exact cd q0 (zI 2) [] [] [] (Sub.refl _) ⟨_,_,rfl,rfl,rfl,rfl⟩
 |3,_=>by refine dB bD [] [] de (zD 35 (ja 2 (by decide) (zD 3 ?_)));exact cd q0 (zI 2) [] [] [] (Sub.refl _) ⟨_,_,rfl,rfl,rfl,rfl⟩
 |4,_=>by refine dB bD [] [] de (zD 35 (ja 3 (by decide) (zD 3 ?_)));exact cd q0 (zI 3) [] [] [] (Sub.refl _) ⟨_,_,rfl,rfl,rfl,rfl⟩
 |5,_=>by refine dB bD [] [] de (zD 35 (ja 3 (by decide) (zD 3 ?_)));exact cd q0 (zI 3) [] [] [] (Sub.refl _) ⟨_,_,rfl,rfl,rfl,rfl⟩
 |6,_=>by refine dB bD [] [] de (zD 35 (ja 3 (by decide) (zD 3 ?_)));exact cd q0 (zI 3) [] [] [] (Sub.refl _) ⟨_,_,rfl,rfl,rfl,rfl⟩
 |7,_=>by refine dB bD [] [] de (zD 35 (ja 3 (by decide) (zD 3 ?_)));exact cd q0 (zI 3) [] [] [] (Sub.refl _) ⟨_,_,rfl,rfl,rfl,rfl⟩
 |8,_=>by refine dB bD [] [] de (zD 35 (ja 4 (by decide) (zD 3 ?_)));exact cd q0 (zI 4) [] [] [] (Sub.refl _) ⟨_,_,rfl,rfl,rfl,rfl⟩
 |9,_=>by refine dB bD [] [] de (zD 35 (ja 4 (by decide) (zD 3 ?_)));exact cd q0 (zI 4) [] [] [] (Sub.refl _) ⟨_,_,rfl,rfl,rfl,rfl⟩
 |10,_=>by refine dB bD [] [] de (zD 35 (ja 4 (by decide) (zD 3 ?_)));exact cd q0 (zI 4) [] [] [] (Sub.refl _) ⟨_,_,rfl,rfl,rfl,rfl⟩
 |11,_=>by refine dB bD [] [] de (zD 35 (ja 4 (by decide) (zD 3 ?_)));exact cd q0 (zI 4) [] [] [] (Sub.refl _) ⟨_,_,rfl,rfl,rfl,rfl⟩
 |12,_=>by refine dB bD [] [] de (zD 35 (ja 4 (by decide) (zD 3 ?_)));exact cd q0 (zI 4) [] [] [] (Sub.refl _) ⟨_,_,rfl,rfl,rfl,rfl⟩
 |n+13,h=>absurd h (by omega)
theorem amj{n:Nat}(h:n<=1000):Value.int .u64 (IntKind.u64.wrap (n:Int))= zU (n:Int):=by
 rw[AI _ rfl _ (by simp) (by grind [IntKind.bits])]
def G6(lt:α->α->Bool):Nat->List α->List α
 |0,ys=>ys
 |j+1,ys=>match ys[j+1]?,ys[j]? with
  |some x,some y=>bif lt x y then G6 lt j ((ys.set (j+1) y).set j x) else ys
  |_,_=>ys
def s9(lt:α->α->Bool):Nat->Nat->List α->List α
 |0,_,ys=>ys
 |n+1,i,ys=>s9 lt n (i+1) (G6 lt i ys)
def dO(lt:α->α->Bool)(xs:List α):List α:=s9 lt (xs.length-1) 1 xs
theorem T8{lt:α->α->Bool}{ys:List α}{j:Int}(h:¬j>0):G6 lt j.toNat ys=ys:=by rw[show j.toNat=0 by omega];rfl
theorem T9{lt:α->α->Bool}{ys:List α}{j:Int}{x y:α}(hj:j>0)(hx:ys[j.toNat]?=some x) (hy:ys[(j-1).toNat]?=some y) (h:lt x y=false):G6 lt j.toNat ys=ys:=by
 have e:j.toNat=(j-1).toNat+1:=by omega
 rw[e] at hx ⊢;simp only[G6,hx,hy,h,jI]
theorem Wj{lt:α->α->Bool}{ys:List α}{j:Int}{x y x' y':α}(hj:j>0)(hx:ys[j.toNat]?=some x) (hy:ys[(j-1).toNat]?=some y) (mO:ys[j.toNat]?=some x') (R7:ys[(j-1).toNat]?=some y') (h:lt x y=true):G6 lt j.toNat ys=G6 lt (j-1).toNat ((ys.set j.toNat y').set (j-1).toNat x'):=by
 rw[hx] at mO;rw[hy] at R7;cases mO;cases R7;have e:j.toNat=(j-1).toNat+1:=by omega
 rw[e] at hx ⊢;rw[G6];simp only[hx,hy,h,cG]
def Mv{lt:α->α->Bool}{xs ys:List α}{n:Nat}{i:Int}(h:dO lt xs=s9 lt (n-i.toNat) i.toNat ys)(hi:0<=i/\i <n):dO lt xs=s9 lt (n-(i+1).toNat) (i+1).toNat (G6 lt i.toNat ys):=by
 rw[h,show n-i.toNat=(n-(i+1).toNat)+1 by omega,show (i+1).toNat=i.toNat+1 by omega];rfl
def OY{lt:α->α->Bool}{xs ys:List α}{n:Nat}{i:Int}(h:dO lt xs=s9 lt (n-i.toNat) i.toNat ys)(hi:¬i <n):ys=dO lt xs:=by
 rw[h,show n-i.toNat=0 by omega];rfl
def Ir(x y:au):Bool:=decide (NU x y <0)
def XS(v:Value)(xs:List au)(Y:Cells):Prop:=∃ys,(ys=dO Ir xs/\ys.Perm xs)/\bI v 2 39 cv ys Y
def aJJ{n:Nat}(h:n<=12):iI zT 144 [zU (n:Int)] ro (zI (ajP n)):=by
 refine zE<|zD 10<|zxp [zU (n:Int)] (λhs=>(aJI h))<|zD 3<|zX _ ⟨rfl,rfl⟩
def biy{v:Value}{xs:List au}{L:Cells}(ho:bI v 2 39 cv xs L)(hN:xs.length<=12):eT zT 301 [v,zI 0,zI (xs.length:Int),.func (.func 182) ⟨[]⟩ ⟨[]⟩] ro L (λr Y=>XS v xs Y):=by
 refine zC [.l L]<|zD 7<|iz [1,0,0] [] (λ(zz:Int×(List au)×Cells)=>[(0,v),(1,zI 0),(2,zI (xs.length:Int)),(3,.func (.func 182) ⟨[]⟩ ⟨[]⟩),(8,zI zz.1)]) (λzz=>[.l zz.2.2]) (λzz=>(1<=zz.1)/\bI v 2 39 cv zz.2.1 zz.2.2/\zz.2.1.Perm xs/\dO Ir xs=s9 Ir (xs.length-zz.1.toNat) zz.1.toNat zz.2.1) (λzz=>((xs.length:Int)-zz.1).toNat) (⟨1,xs,L⟩) ⟨by dsimp only;omega,ho,.refl _,rfl⟩ [0] ?_;rintro⟨i,ys,L⟩ hI K1 cU rest;dsimp only at hI;have hyl:=hI.2.2.1.length_eq;refine zD 7<|zJ 14 (i <(xs.length:Int)) (λh1=>?_) λh1=>?_
 ·
  refine zD 10<|iz [1,0,0,1,0,0,1,0,0] [K1] (λ(zz:Int×(List au)×Cells)=>[(0,v),(1,zI 0),(2,zI (xs.length:Int)),(3,.func (.func 182) ⟨[]⟩ ⟨[]⟩),(8,zI i),(9,zI zz.1)]) (λzz=>[.l zz.2.2]) (λzz=>(0<=zz.1/\zz.1<=i)/\bI v 2 39 cv zz.2.1 zz.2.2/\zz.2.1.Perm xs/\dO Ir xs=s9 Ir (xs.length-(i+1).toNat) (i+1).toNat (G6 Ir zz.1.toNat zz.2.1)) (λzz=>zz.1.toNat) (⟨i,ys,L⟩) ⟨by dsimp only;omega,hI.2.1,hI.2.2.1,Mv hI.2.2.2 (by omega)⟩ [0] ?_;rintro⟨j,ys,L⟩ hJ K2 kU rest;dsimp only at hJ;have hyl:=hJ.2.2.1.length_eq;refine zD 7<|js 3 (decide (j>0)) (λh2=>?_) (λh2=>?_)
  ·
   have nu:=h2;replace nu:=ah nu;refine zD 3 ?_;obtain⟨wx,jT⟩:=zG ys (j.toNat) (by first|omega| (simp only[aM];omega));refine zH j 2 hJ.2.1 jT λb25 WH=>yL 0 [0] L (λs _ hZ=>kN hJ.2.1 WH hZ jT)<|zD 2<|zW (j-1) ?_;obtain⟨FK,tv⟩:=zG ys ((j-1).toNat) (by first|omega| (simp only[aM];omega));refine zH (j-1) 2 hJ.2.1 tv λb30 ari=>yL 0 [0] L (λs _ hZ=>kN hJ.2.1 ari hZ tv)<|zxo 14 λtx=>zxp [.agg ⟨[zI wx.n,zI wx.l]⟩,.agg ⟨[zI FK.n,zI FK.l]⟩] (λhs=>(asv (x:=wx) (y:=FK)))<|eH tx [0]<|zD 3<|zJ 34 ((NU wx FK) <0) (λh4=>?_) λh4=>?_
   ·
    refine zD 9<|zW (j-1)<|zD 2<|zW (j-1) ?_;obtain⟨xR,sN⟩:=zG ys ((j-1).toNat) (by first|omega| (simp only[List.length_set];omega));refine zH (j-1) 2 hJ.2.1 sN λb45 ae8=>yL 0 [0] L (λs _ hZ=>kN hJ.2.1 ae8 hZ sN)<|zD 2 ?_;obtain⟨x49,Wq⟩:=zG ys (j.toNat) (by first|omega| (simp only[List.length_set];omega));refine zH j 2 hJ.2.1 Wq λb49 aIB=>yL 0 [0] L (λs _ hZ=>kN hJ.2.1 aIB hZ Wq) ?_;obtain⟨ib,qH⟩:=zG ys (j.toNat) (by first|omega| (simp only[List.length_set];omega));refine zH j 2 hJ.2.1 qH λb51 aIA=>zxo 15 λtw=>jso 0 0 [zI xR.n,zI xR.l] (⟨xR.n,xR.l⟩:au) hJ.2.1 aIA qH rfl rfl (Nat.le_of_ble_eq_true rfl) λL6 ho7=>ee tw [] ?_;obtain⟨fD,sM⟩:=zG ((ys.set j.toNat (⟨xR.n,xR.l⟩:au))) ((j-1).toNat) (by first|omega| (simp only[List.length_set];omega));refine zH (j-1) 2 ho7 sM λb52 arh=>zxo 17 λC6=>jso 0 0 [zI x49.n,zI x49.l] (⟨x49.n,x49.l⟩:au) ho7 arh sM rfl rfl (Nat.le_of_ble_eq_true rfl) λL9 kO=>kA C6<|zD 3<|zW (j-1)<|zD 2<|zF kU (⟨(j-1),((ys.set j.toNat (⟨xR.n,xR.l⟩:au)).set ((j-1).toNat) (⟨x49.n,x49.l⟩:au)),L9⟩) ⟨kO,(E4 Wq sN).trans hJ.2.2.1,by dsimp only;rw[hJ.2.2.2,Wj (by omega) jT tv Wq sN (decide_eq_true (by assumption))]⟩ [0]
   refine zD 4<|zW (i+1)<|zD 2<|zF cU (⟨(i+1),ys,L⟩) ⟨hJ.2.1,hJ.2.2.1,by dsimp only;rw[hJ.2.2.2,T9 (by omega) jT tv (decide_eq_false (by assumption))]⟩ [0]
  have nu:=h2;replace nu:=of_decide_eq_false nu;refine zD 18<|zW (i+1)<|zD 2<|zF cU (⟨(i+1),ys,L⟩) ⟨hJ.2.1,hJ.2.2.1,by dsimp only;rw[hJ.2.2.2,T8 (by omega)]⟩ [0]
 refine zD 2<|zR (.tuple ⟨[]⟩) [] [0] L ⟨ys,⟨OY hI.2.2.2 (by omega),hI.2.2.1⟩,hI.2.1⟩
def biw{v:Value}{xs:List au}{L:Cells}(ho:bI v 2 39 cv xs L)(hN:xs.length<=12):eT zT 267 [v,zI 0,zI (xs.length:Int),zI lim,.func (.func 182) ⟨[]⟩ ⟨[]⟩] ro L (λr Y=>XS v xs Y):=by
 refine zC [.l L]<|zD 9<|iz [1,1,0,0] [] (λ(zz:Nat)=>[(0,v),(1,zI 0),(2,zI (xs.length:Int)),(3,zI lim),(4,.func (.func 182) ⟨[]⟩ ⟨[]⟩),(10,.bool true),(11,.bool true)]) (λzz=>[.l L]) (λzz=>True) (λzz=>zz) 0 trivial [0] ?_;rintro z hI K1 cU rest;refine zD 5<|zW ((xs.length:Int)-0)<|zD 8<|zJ 25 (((xs.length:Int)-0)<=12) (λh1=>?_) λh1=>?_
 ·
  refine zD 7<|jc (vs:=[v,zI 0,zI (xs.length:Int),.func (.func 182) ⟨[]⟩ ⟨[]⟩]) [0] (biy ho (by omega)) ?_;rintro bbD Y30 ⟨aDn,aqj,aa3⟩;refine zD 2<|zR (.tuple ⟨[]⟩) [] [0] _ ⟨_,aqj,aa3⟩
 exfalso;omega
def afq{v:Value}{xs:List au}{L:Cells}(ho:bI v 2 39 cv xs L)(hN:xs.length<=12):eT zT 225 [v,.func (.func 182) ⟨[]⟩ ⟨[]⟩] ro L (λr Y=>XS v xs Y):=by
 refine zC [.l L]<|zD 3<|jol ho<|zD 6<|je (zU (xs.length:Int)) (amj (by omega))<|zxp [zU (xs.length:Int)] (λhs=>(aJJ (by omega)))<|zD 1<|jc (vs:=[v,zI 0,zI (xs.length:Int),zI (ajP xs.length),.func (.func 182) ⟨[]⟩ ⟨[]⟩]) [0] (biw ho (by omega)) ?_;rintro bbE Y13 ⟨aZO,aaW,NG⟩;refine zD 1<|zR (.tuple ⟨[]⟩) [] [0] _ ⟨_,aaW,NG⟩
def ay7(x y:ak):Int:=orL [uf x.h y.h,NU ⟨x.n,x.l⟩ ⟨y.n,y.l⟩]
def qW(x y:ak):Bool:=decide (ay7 x y <0)
def Ov(v:Value)(xs:List ak)(Y:Cells):Prop:=∃ys,(ys=dO qW xs/\ys.Perm xs)/\bI v 3 41 bO ys Y
def aUK{x y:ak}:iI zT 136 [.agg ⟨[zI x.h,zI x.n,zI x.l]⟩,.agg ⟨[zI y.h,zI y.n,zI y.l]⟩] ro (zI (ay7 x y)):=by
 refine zE<|zD 2<|jn λb2=>jn λb3=>jd 12 [1,0,1,0]<|zxp [zI x.h,zI y.h] (λhs=>ayu)<|zxp [.agg ⟨[zI x.n,zI x.l]⟩,.agg ⟨[zI y.n,zI y.l]⟩] (λhs=>(asv (x:=⟨x.n,x.l⟩) (y:=⟨y.n,y.l⟩)))<|zxo 10 λuk=>jn λAx=>eH uk [1,2]<|jp (vs:=[.slice (some ⟨Ax,0,none⟩) 2 2]) [0] [(Ax,.cells ⟨([(uf x.h y.h),(NU ⟨x.n,x.l⟩ ⟨y.n,y.l⟩)].map eC).flatten⟩ 3 (0,0))] (λcK hs hZ=>gOr (eZ [(uf x.h y.h),(NU ⟨x.n,x.l⟩ ⟨y.n,y.l⟩)] hZ.head (by intro p hp;rfl)) (by first|omega| (simp only[aM,zM];omega))) ?_;refine zD 3<|zX _ ⟨rfl,rfl⟩
def aUF{v:Value}{xs:List ak}{L:Cells}(ho:bI v 3 41 bO xs L)(hN:xs.length<=12):eT zT 231 [v,zI 0,zI (xs.length:Int),.func (.func 136) ⟨[]⟩ ⟨[]⟩] ro L (λr Y=>Ov v xs Y):=by
 refine zC [.l L]<|zD 7<|iz [1,0,0] [] (λ(zz:Int×(List ak)×Cells)=>[(0,v),(1,zI 0),(2,zI (xs.length:Int)),(3,.func (.func 136) ⟨[]⟩ ⟨[]⟩),(8,zI zz.1)]) (λzz=>[.l zz.2.2]) (λzz=>(1<=zz.1)/\bI v 3 41 bO zz.2.1 zz.2.2/\zz.2.1.Perm xs/\dO qW xs=s9 qW (xs.length-zz.1.toNat) zz.1.toNat zz.2.1) (λzz=>((xs.length:Int)-zz.1).toNat) (⟨1,xs,L⟩) ⟨by dsimp only;omega,ho,.refl _,rfl⟩ [0] ?_;rintro⟨i,ys,L⟩ hI K1 cU rest;dsimp only at hI;have hyl:=hI.2.2.1.length_eq;refine zD 7<|zJ 14 (i <(xs.length:Int)) (λh1=>?_) λh1=>?_
 ·
  refine zD 10<|iz [1,0,0,1,0,0,1,0,0] [K1] (λ(zz:Int×(List ak)×Cells)=>[(0,v),(1,zI 0),(2,zI (xs.length:Int)),(3,.func (.func 136) ⟨[]⟩ ⟨[]⟩),(8,zI i),(9,zI zz.1)]) (λzz=>[.l zz.2.2]) (λzz=>(0<=zz.1/\zz.1<=i)/\bI v 3 41 bO zz.2.1 zz.2.2/\zz.2.1.Perm xs/\dO qW xs=s9 qW (xs.length-(i+1).toNat) (i+1).toNat (G6 qW zz.1.toNat zz.2.1)) (λzz=>zz.1.toNat) (⟨i,ys,L⟩) ⟨by dsimp only;omega,hI.2.1,hI.2.2.1,Mv hI.2.2.2 (by omega)⟩ [0] ?_;rintro⟨j,ys,L⟩ hJ K2 kU rest;dsimp only at hJ;have hyl:=hJ.2.2.1.length_eq;refine zD 7<|js 3 (decide (j>0)) (λh2=>?_) (λh2=>?_)
  ·
   have nu:=h2;replace nu:=ah nu;refine zD 3 ?_;obtain⟨wx,jT⟩:=zG ys (j.toNat) (by first|omega| (simp only[aM];omega));refine zH j 3 hJ.2.1 jT λb25 WH=>yL 0 [0] L (λs _ hZ=>kN hJ.2.1 WH hZ jT)<|zD 2<|zW (j-1) ?_;obtain⟨FK,tv⟩:=zG ys ((j-1).toNat) (by first|omega| (simp only[aM];omega));refine zH (j-1) 3 hJ.2.1 tv λb30 ari=>yL 0 [0] L (λs _ hZ=>kN hJ.2.1 ari hZ tv)<|zxo 14 λtx=>zxp [.agg ⟨[zI wx.h,zI wx.n,zI wx.l]⟩,.agg ⟨[zI FK.h,zI FK.n,zI FK.l]⟩] (λhs=>(aUK (x:=wx) (y:=FK)))<|eH tx [0]<|zD 3<|zJ 34 ((ay7 wx FK) <0) (λh4=>?_) λh4=>?_
   ·
    refine zD 9<|zW (j-1)<|zD 2<|zW (j-1) ?_;obtain⟨xR,sN⟩:=zG ys ((j-1).toNat) (by first|omega| (simp only[List.length_set];omega));refine zH (j-1) 3 hJ.2.1 sN λb45 ae8=>yL 0 [0] L (λs _ hZ=>kN hJ.2.1 ae8 hZ sN)<|zD 2 ?_;obtain⟨x49,Wq⟩:=zG ys (j.toNat) (by first|omega| (simp only[List.length_set];omega));refine zH j 3 hJ.2.1 Wq λb49 aIB=>yL 0 [0] L (λs _ hZ=>kN hJ.2.1 aIB hZ Wq) ?_;obtain⟨ib,qH⟩:=zG ys (j.toNat) (by first|omega| (simp only[List.length_set];omega));refine zH j 3 hJ.2.1 qH λb51 aIA=>zxo 15 λtw=>jso 0 0 [zI xR.h,zI xR.n,zI xR.l] (⟨xR.h,xR.n,xR.l⟩:ak) hJ.2.1 aIA qH rfl rfl (Nat.le_of_ble_eq_true rfl) λL6 ho7=>ee tw [] ?_;obtain⟨fD,sM⟩:=zG ((ys.set j.toNat (⟨xR.h,xR.n,xR.l⟩:ak))) ((j-1).toNat) (by first|omega| (simp only[List.length_set];omega));refine zH (j-1) 3 ho7 sM λb52 arh=>zxo 17 λC6=>jso 0 0 [zI x49.h,zI x49.n,zI x49.l] (⟨x49.h,x49.n,x49.l⟩:ak) ho7 arh sM rfl rfl (Nat.le_of_ble_eq_true rfl) λL9 kO=>kA C6<|zD 3<|zW (j-1)<|zD 2<|zF kU (⟨(j-1),((ys.set j.toNat (⟨xR.h,xR.n,xR.l⟩:ak)).set ((j-1).toNat) (⟨x49.h,x49.n,x49.l⟩:ak)),L9⟩) ⟨kO,(E4 Wq sN).trans hJ.2.2.1,by dsimp only;rw[hJ.2.2.2,Wj (by omega) jT tv Wq sN (decide_eq_true (by assumption))]⟩ [0]
   refine zD 4<|zW (i+1)<|zD 2<|zF cU (⟨(i+1),ys,L⟩) ⟨hJ.2.1,hJ.2.2.1,by dsimp only;rw[hJ.2.2.2,T9 (by omega) jT tv (decide_eq_false (by assumption))]⟩ [0]
  have nu:=h2;replace nu:=of_decide_eq_false nu;refine zD 18<|zW (i+1)<|zD 2<|zF cU (⟨(i+1),ys,L⟩) ⟨hJ.2.1,hJ.2.2.1,by dsimp only;rw[hJ.2.2.2,T8 (by omega)]⟩ [0]
 refine zD 2<|zR (.tuple ⟨[]⟩) [] [0] L ⟨ys,⟨OY hI.2.2.2 (by omega),hI.2.2.1⟩,hI.2.1⟩
def aUA{v:Value}{xs:List ak}{L:Cells}(ho:bI v 3 41 bO xs L)(hN:xs.length<=12):eT zT 180 [v,zI 0,zI (xs.length:Int),zI lim,.func (.func 136) ⟨[]⟩ ⟨[]⟩] ro L (λr Y=>Ov v xs Y):=by
 refine zC [.l L]<|zD 9<|iz [1,1,0,0] [] (λ(zz:Nat)=>[(0,v),(1,zI 0),(2,zI (xs.length:Int)),(3,zI lim),(4,.func (.func 136) ⟨[]⟩ ⟨[]⟩),(10,.bool true),(11,.bool true)]) (λzz=>[.l L]) (λzz=>True) (λzz=>zz) 0 trivial [0] ?_;rintro z hI K1 cU rest;refine zD 5<|zW ((xs.length:Int)-0)<|zD 8<|zJ 25 (((xs.length:Int)-0)<=12) (λh1=>?_) λh1=>?_
 ·
  refine zD 7<|jc (vs:=[v,zI 0,zI (xs.length:Int),.func (.func 136) ⟨[]⟩ ⟨[]⟩]) [0] (aUF ho (by omega)) ?_;rintro bbD Y30 ⟨aDn,aqj,aa3⟩;refine zD 2<|zR (.tuple ⟨[]⟩) [] [0] _ ⟨_,aqj,aa3⟩
 exfalso;omega
def aJG{v:Value}{xs:List ak}{L:Cells}(ho:bI v 3 41 bO xs L)(hN:xs.length<=12):eT zT 135 [v,.func (.func 136) ⟨[]⟩ ⟨[]⟩] ro L (λr Y=>Ov v xs Y):=by
 refine zC [.l L]<|zD 3<|jol ho<|zD 6<|je (zU (xs.length:Int)) (amj (by omega))<|zxp [zU (xs.length:Int)] (λhs=>(aJJ (by omega)))<|zD 1<|jc (vs:=[v,zI 0,zI (xs.length:Int),zI (ajP xs.length),.func (.func 136) ⟨[]⟩ ⟨[]⟩]) [0] (aUA ho (by omega)) ?_;rintro bbE Y13 ⟨aZO,aaW,NG⟩;refine zD 1<|zR (.tuple ⟨[]⟩) [] [0] _ ⟨_,aaW,NG⟩
def aFp{x y:ak}(h:(x.h==y.h&&((x.n==y.n&&(x.l==y.l&&true))&&true))=true):x=y:=by
 rcases x with ⟨a,b,c⟩;rcases y with ⟨d,e,f⟩
 simp only[Bool.and_true,av,beq_iff_eq] at h;obtain⟨rfl,rfl,rfl⟩:=h;rfl
def aP2{l:List α}(hn:l.Nodup){x y:α}(hx:l[i]?=some x) (hy:l[j]?=some y) (h:i≠j):x≠y:=λe=>by
 subst e;obtain⟨hi,e1⟩:=aA.1 hx;obtain⟨hj,e2⟩:=aA.1 hy;exact h ((RS (h₀:=hi) (h₁:=hj) hn).1 (e1.trans e2.symm))
def asu{v:Value}{xs:List ak}{L:Cells}(ho:bI v 3 41 bO xs L)(hN:xs.length<=12)(kT:xs.Nodup):eT zT 137 [v] ro L (λr Y=>v=r/\L=Y):=by
 refine zC [.l L]<|zD 8<|jol ho<|zD 2<|zJ 8 ((xs.length:Int) <2) (λh1=>?_) λh1=>?_
 ·
  refine zD 7<|zR _ [] [0] L ⟨rfl,rfl⟩
 refine zD 8<|iz [1,1,0,1,0,0] [] (λ(zz:Int)=>[(0,v),(3,zI zz)]) (λzz=>[.l L]) (λzz=>1<=zz) (λzz=>((xs.length:Int)-zz).toNat) 1 (by omega) [0] ?_;rintro k hI K1 cU rest;refine zD 5<|jol ho<|zD 2<|zJ 13 (k <(xs.length:Int)) (λh2=>?_) λh2=>?_
 ·
  refine zD 8 ?_;obtain⟨x18,aeG⟩:=zG xs (k.toNat) (by first|omega| (simp only[aM];omega));refine zH k 3 ho aeG λb18 bhj=>yL 0 [0] L (λs _ hZ=>kN ho bhj hZ aeG)<|zD 2<|zW (k-1) ?_;obtain⟨pF,rV⟩:=zG xs ((k-1).toNat) (by first|omega| (simp only[aM];omega));refine zH (k-1) 3 ho rV λb23 aIC=>yL 0 [0] L (λs _ hZ=>kN ho aIC hZ rV)<|jeq aha (Xq x18.h x18.n x18.l pF.h pF.n pF.l)<|zD 1<|js 25 (x18.h==pF.h&&(x18.n==pF.n&&(x18.l==pF.l&&true)&&true)) (λh3=>?_) (λh3=>?_)
  ·
   exact absurd (aFp h3) (aP2 kT aeG rV (by omega))
  refine zD 4<|zW (k+1)<|zD 2<|zY cU (k+1) (by omega) [0]
 refine zD 8<|zR _ [] [0] L ⟨rfl,rfl⟩
def W9{v:Value}{xs:List ak}(hl:dk ro v 3 bO xs)(hN:xs.length<=12)(kT:xs.Nodup):eT zT 99 [v] ro [] (λr Y=>Ov r xs Y):=by
 obtain⟨fO,rh,q9,fb,rfl,sV,mR,nN⟩:=hl;refine zE<|zD 7<|jc (vs:=[.slice fO xs.length fb]) [] (biA (show dk _ _ _ _ _ from ⟨fO,rh,q9,fb,rfl,sV,mR,nN⟩) (by first|omega| (simp only[aM,zM];omega))) ?_;rintro v5 L5 ho5;obtain⟨va5,vc5,Ug⟩:=ho5.form;subst Ug;refine zD 5<|jc (vs:=[(.slice va5 (xs).length vc5),.func (.func 136) ⟨[]⟩ ⟨[]⟩]) [0] (aJG ho5 (by omega)) ?_;rintro rv7 Y7 ⟨ys7,hp7,ho7⟩;refine zD 4<|jc (vs:=[(.slice va5 (xs).length vc5)]) [0] (asu ho7 (by have:=hp7.2.length_eq;omega) (hp7.2.nodup_iff.2 kT)) ?_;rintro _ _ ⟨rfl,rfl⟩;refine zD 3<|zR _ [] [0] Y7 ⟨_,hp7,ho7⟩
theorem MV.put{F:List (ak×Value)}{g:ak->List ak}(h:MV Z F g){k:ak}{v:Value}(hv:∀bU,Knows bU Z2->dk bU v 3 bO (g k)):MV (Z++Z2) (iS k v F) g:=by
 have h1:∀x∈iS k v F,x=(k,v)\/x∈F:=λx hx=>by
  grind [iS,H5,aU]
 intro bU hr x hx;rcases h1 x hx with rfl|hx
 .exact hv bU hr.right
 exact h bU hr.left x hx
theorem YR[DecidableEq κ]{k x:κ}{v:Value}{F:List (κ×Value)}(h:x=k\/x∈F.map (·.1)):x∈(iS k v F).map (·.1):=by
 unfold iS;split
 .rename_i i u hf;have He:=(tC hf).2;rw[acA] at He;have hs:((F.set i (k,v)).map (·.1))=F.map (·.1):=by
   rw[Dh];refine pI λj=>?_
   grind
  rw[H5,hs];rcases h with rfl|h
  .exact cY (f:=(·.1)) (zL He)
  exact h
 rw[cw];rcases h with rfl|h
 .exact gD _ (by simp)
 exact cZ _ h
def Seen(es:Array MapEntry)(seen:List Nat)(F:List (ak×Value)):Prop:=∀e∈es.toList,e∈gq es seen\/∃k,e.key=mw k/\k∈F.map (·.1)
theorem Seen.start{es:Array MapEntry}{F:List (ak×Value)}:Seen es [] F:=λe he=> .inl (by grind [E8])
theorem Seen.step{es:Array MapEntry}{ck:Nat}{F0 F:List (ak×Value)}(h:Seen es seen F)(hE:wN mw F0 es ck){e:MapEntry}(he:e∈gq es seen){k:ak}(hk:e.key=mw k){v:Value}:Seen es (seen++[e.born]) (iS k v F):=λx hx=>by
 rcases h x hx with h1| ⟨q,h1,h2⟩
 .rcases P5 hE he h1 with rfl|h2
  .exact .inr ⟨k,hk,YR (.inl rfl)⟩
  grind
 grind [YR]
def axa{a b:ak}(h:mw a=mw b):a=b:=by
 rcases a with ⟨x,y,z⟩;simp_all
theorem Seen.fin{es:Array MapEntry}{ck:Nat}{F0 F:List (ak×Value)}(h:Seen es seen F)(hl:gq es seen=[])(hE:wN mw F0 es ck){k:ak}(hk:k∈F0.map (·.1)):k∈F.map (·.1):=by
 obtain⟨⟨k',v⟩,h1,rfl⟩:=a8.1 hk;have:(mw k',v)∈es.toList.map (λe=>(e.key,e.val)):=by rw[hE.1];exact cY (f:=λx:ak×Value=>(mw x.1,x.2)) h1
 obtain⟨e,h2,h3⟩:=a8.1 this;simp only[bL] at h3;rcases h e h2 with h4| ⟨q,h4,h5⟩
 .rw[hl] at h4;cases h4
 have:=axa (h3.1.symm.trans h4);subst this;exact h5
structure RI(ro:Nat->Option Obj)(r:Nat)(H:List ak)(g:ak->List ak)(es:Array MapEntry)(ck:Nat)(F:List (ak×Value)):Prop where
 m:ro r=some (.map es ck)
 e:wN mw F es ck
 k:F.map (·.1)=H
 v:∀x∈F,dk ro x.2 3 bO (g x.1)
theorem ad3{a x:α}(h: [a][j]?=some x):x=a/\j=0:=by grind
theorem asD{f:α->List β}{l:List α}{x:α}(h:l[i]?=some x):((l.take i).flatMap f).length+(f x).length<=(l.flatMap f).length:=by
 have h1:=Fp (f:=f) h
 grind [fH,aL]
def Gc(g1 g2:ak->List ak)(h:ak):List ak:=dO qW ((g1 h).flatMap g2)
structure agh(ro:Nat->Option Obj)(r:Nat)(H:List ak)(g:ak->List ak)(es:Array MapEntry)(ck:Nat)(F:List (ak×Value)):Prop where
 m:ro r=some (.map es ck)
 e:wN mw F es ck
 k:∀h,h∈F.map (·.1)↔h∈H
 v:∀x∈F,dk ro x.2 3 bO (g x.1)
theorem avg[DecidableEq κ]{k x:κ}{v:Value}{F:List (κ×Value)}(h:x∈(iS k v F).map (·.1)):x=k\/x∈F.map (·.1):=by
 grind [iS,H5,HW]
def aCj{r1 NX:Nat}{I3:Array MapEntry}{F1:List (ak×Value)}{r2 ck2:Nat}{NQ:Array MapEntry}{F2:List (ak×Value)}{H H2:List ak}{g1 g2:ak->List ak}(Au:agh ro r1 H g1 I3 NX F1)(hP2:agh ro r2 H2 g2 NQ ck2 F2)(uM:∀h∈H,∀x∈g1 h,x∈H2)(hl:∀h∈H,(g1 h).length<=6/\((g1 h).flatMap g2).length<=12/\((g1 h).flatMap g2).Nodup):eT zT 173 [(.map (some r1)),(.map (some r2))] ro [] (λr Y=>∃rm F LM Z,r= .map (some rm)/\Y=LM++Z/\g9 rm mw F LM/\(∀h,h∈F.map (·.1)↔h∈H)/\MV Z F (Gc g1 g2)):=by
 refine zE<|zD 6<|jmk mw λr11 YC aeT=>zD 6<|jmR Au.m λr13=>jg 0 [.b r13 (vi r1 NX [])]<|zD 2<|uI<|iz [1,1,0,1,0,0] [] (λ(zz:(List Nat)×(List (ak×Value))×Cells×Cells)=>[(1,(.map (some r2))),(4,(.map none)),(5,(.map (some r11))),(13,zP r13)]) (λ(zz:(List Nat)×(List (ak×Value))×Cells×Cells)=>[.b r13 (vi r1 NX zz.1),.l zz.2.2.1,.l zz.2.2.2]) (λ(zz:(List Nat)×(List (ak×Value))×Cells×Cells)=>g9 r11 mw zz.2.1 zz.2.2.1/\Seen I3 zz.1 zz.2.1/\MV zz.2.2.2 zz.2.1 (Gc g1 g2)/\∀h∈zz.2.1.map (·.1),h∈H) (λ(zz:(List Nat)×(List (ak×Value))×Cells×Cells)=>(gq I3 zz.1).length) (⟨[],[],YC,[]⟩) ⟨aeT,Seen.start,λ_ _ _ h=>(by cases h),λ_ h=>(by cases h)⟩ [1,2,0] ?_;rintro⟨seen,F,LM,Z⟩ hI K1 cU rest;dsimp only at hI;refine zD 2<|jmN (it:=r13) (kv:=mw) (seen:=seen) 0 Au.m Au.e (λk14 RV e14 akl nf aeX beH=>?_) (λaGA=>?_)
 ·
  have hkH:k14∈H:=(Au.k _).1 (List.mem_map_of_mem (f:=(·.1)) akl);have Yp:=hl _ hkH;have hvv:dk ro RV 3 bO (g1 k14):=Au.v _ akl;obtain⟨Zs,qvb,qvo,Nq,rfl,qvk,qvh,qvl⟩:=hvv;refine jg 0 [.b r13 (vi r1 NX (seen++[e14.born]))]<|zD 8<|jmE (it:=r13) 0 Au.m Au.e nf aeX beH<|jg 0 [.b r13 (vi r1 NX (seen++[e14.born]))]<|zD 2<|jn λb6=>jd 15 [0]<|uI<|iz [1,1,0,1,0,0,1,1,0,1,1,0,1,0,0] [K1] (λ(zz:Nat×Value×Cells)=>[(1,(.map (some r2))),(4,(.map none)),(5,(.map (some r11))),(6,zP b6),(8,zz.2.1),(13,zP r13),(19,.slice Zs ((g1 k14).length) Nq),(20,zI ((g1 k14).length:Int)),(21,zI (zz.1:Int))]) (λzz=>[.l zz.2.2,zxc b6 41 [zI k14.h,zI k14.n,zI k14.l],.b r13 (vi r1 NX (seen++[e14.born])),.l LM,.l Z]) (λzz=>zz.1<=(g1 k14).length/\bI zz.2.1 3 41 bO (((g1 k14).take zz.1).flatMap g2) zz.2.2) (λzz=>(g1 k14).length-zz.1) (⟨0,zS,[]⟩) ⟨by dsimp only;omega,bI.nil _ _ _⟩ (zN 0 5) ?_;rintro⟨i,vO,LO⟩ hJ K2 kU rest;dsimp only at hJ;refine zD 5<|zJ 22 ((i:Int) <((g1 k14).length:Int)) (λh1=>?_) λh1=>?_
  ·
   refine zD 6<|zxt (g1 k14) i Nq 3 qvh qvl λpF rV=>jn λCH=>jd 6 [0,0]<|jlu (kv:=mw) (F:=F2) (r:=r2) (K:=41) pF (zS) false [] [] wV (λs he _=>⟨_,_,he _ _ (.inl hP2.m),hP2.e⟩) ?_;obtain⟨w28,aGP,akf⟩:=Od (k:=pF) (F:=F2) ((hP2.k _).2 (uM _ hkH _ (zL rV)));have hww:dk ro w28 3 bO (g2 pF):=hP2.v _ akf;have hfm:=asD (f:=g2) rV;obtain⟨wC,R3,R2,uF,rfl,qwk,MB,MA⟩:=hww;refine jw 28 (.slice wC ((g2 pF).length) uF) (show R5 (zS) false pF F2=_ from by simp only[R5,aGP];rfl) ?_;refine zxk bO 1 uF (hJ.2) MB MA (λVg Vd L29 Ao=>?_) (hb:=by have:=Yp.2.1;omega);refine zD 3<|zW ((i:Int)+1)<|zD 2<|zF kU (⟨i+1,(.slice Vg (((((g1 k14).take i).flatMap g2)++(g2 pF))).length Vd),L29⟩) (by rw[Fp rV];exact Ao) [0,2,3,4,5]
  refine jd 6 [1]<|zxo 3 λtx=>jcL (vs:=[vO]) [] [0] LO (λcK hs hZ=>W9 (hJ.2.ju hZ) (by rw[bF (by omega)];exact Yp.2.1) (by rw[bF (by omega)];exact Yp.2.2)) ?_;rintro v34 L34 ⟨boc,bff,bfp⟩;refine eH tx (zN 1 5)<|zxo 4 λtw=>We (kv:=mw) (F:=F) (r:=r11) (K:=41) 4 k14 (v34) wV hI.1 λLm4 hm4=>kA tw<|zD 1<|B0 cU (⟨(seen++[e14.born]),_,Lm4,Z++L34⟩) ⟨hm4,hI.2.1.step Au.e nf aeX,hI.2.2.1.put λbU hk=>(by have:=bfp;rw[bff.1,bF (by omega)] at this;exact this.ju hk),λh hh=>(avg hh).elim (λe=>e▸hkH) (hI.2.2.2 h)⟩ (Bc nf) [[4],[0],[5,1]] (Sub.refl _)
 refine jg 0 [.b r13 (vi r1 NX seen)]<|zD 11<|zR _ [] [1,2] _ ⟨r11,F,LM,Z,rfl,rfl,hI.1,λh=>⟨hI.2.2.2 h,λhh=>hI.2.1.fin aGA Au.e ((Au.k _).2 hh)⟩,hI.2.2.1⟩
open Go.ConcR (KK wgBlock WgAt stA smA rd wr)
open Go.ConcM (OsLater)
noncomputable def gp(W:Nat):Value:= .pointer (some ⟨W,0,none⟩)
noncomputable def sKd(W:Nat):List FD:=[⟨152,tdF Tryz.prog 152 0 0,.normal,84,[(0,gp W)]⟩]
noncomputable def Sv(W:Nat):List FD:=[⟨206,tdF Tryz.prog 206 1 3,.normal,7,[(5,gp W)]⟩,⟨152,tdF Tryz.prog 152 1 3,.normal,84,[(0,gp W)]⟩]
noncomputable def Mw(W vs:Nat):List FD:=[⟨213,tdF Tryz.prog 213 1 5,.normal,13,[(9,gp W),(10,.int .u64 ((vs:Int)*KK)),(11,.int .u64 ((vs:Int)*KK+1))]⟩,⟨152,tdF Tryz.prog 152 10 6,.normal,84,[(0,gp W),(2,.int .u64 ((vs:Int)*KK)),(4,.int .u32 0)]⟩]
def CZ:Frame->Bool:=λ_=>false
def onL(F:Frame->List Frame->Bl):List Frame->Bl
 |f::s=>F f s
 | []=>none
noncomputable def ck0:List Frame->Bl:=onL λf s=>FM Tryz.prog 240 (HB 0 0) false none [(7,0)] f s λf s=>Fo Tryz.prog 240 300 f s (UT Tryz.prog 240)
noncomputable def ckH(vs:Nat):List Frame->Bl:=onL λf s=>FM Tryz.prog 240 (HB ((vs:Int)*KK) 0) false (some (0,.u64,(vs:Int)*KK+1)) [(7,0),(8,0)] f s λf s=>Fo Tryz.prog 240 300 f s (aim Tryz.prog 240)
noncomputable def aax(b:Bl):Nat:=(b.getD []).length
def aZW(W:Nat):Comes W (sKd W) [] [] (Vy CZ Tryz.prog 240 [Frame.enter Tryz.prog 152 ⟨[gp W]⟩ .normal]):=by unfold Comes;kernel_rfl
def aZU(W:Nat)(v:Nat->Nat->Value):Comes W (Sv W) [] [(1,0)] (mT CZ Tryz.prog 240 gA (fe (sKd W) v)):=by unfold Comes;kernel_rfl
def w_0(W:Nat)(v:Nat->Nat->Value):ck0 (fe (Sv W) v)=some (List.replicate (aax (ck0 (fe (Sv W) v))) W):=by kernel_rfl
def aZT(W:Nat)(v:Nat->Nat->Value):Comes W (Mw W 1) [] [(7,0)] (mT CZ Tryz.prog 240 (HB (((1:Nat):Int)*KK) 0) (fe (Sv W) v)):=by unfold Comes;kernel_rfl
def aZS(W:Nat)(v:Nat->Nat->Value):Comes W (Mw W 2) [] [(7,0)] (mT CZ Tryz.prog 240 (HB (((2:Nat):Int)*KK) 0) (fe (Sv W) v)):=by unfold Comes;kernel_rfl
def aZR(W:Nat)(v:Nat->Nat->Value):Comes W (Mw W 3) [] [(7,0)] (mT CZ Tryz.prog 240 (HB (((3:Nat):Int)*KK) 0) (fe (Sv W) v)):=by unfold Comes;kernel_rfl
def aZQ(W:Nat)(v:Nat->Nat->Value):Comes W (Mw W 4) [] [(7,0)] (mT CZ Tryz.prog 240 (HB (((4:Nat):Int)*KK) 0) (fe (Sv W) v)):=by unfold Comes;kernel_rfl
def w_v(W:Nat)(v:Nat->Nat->Value){n:Nat}(h1:1<=n)(h4:n<=4):Comes W (Mw W n) [] [(7,0)] (mT CZ Tryz.prog 240 (HB ((n:Int)*KK) 0) (fe (Sv W) v)):=by
 obtain rfl|rfl|rfl|rfl:n=1\/n=2\/n=3\/n=4:=by omega
 .exact aZT W v
 .exact aZS W v
 .exact aZR W v
 exact aZQ W v
def aZ0(W:Nat)(v:Nat->Nat->Value):ckH 1 (fe (Mw W 1) v)=some (List.replicate (aax (ckH 1 (fe (Mw W 1) v))) W):=by kernel_rfl
def aZZ(W:Nat)(v:Nat->Nat->Value):ckH 2 (fe (Mw W 2) v)=some (List.replicate (aax (ckH 2 (fe (Mw W 2) v))) W):=by kernel_rfl
def aZY(W:Nat)(v:Nat->Nat->Value):ckH 3 (fe (Mw W 3) v)=some (List.replicate (aax (ckH 3 (fe (Mw W 3) v))) W):=by kernel_rfl
def aZX(W:Nat)(v:Nat->Nat->Value):ckH 4 (fe (Mw W 4) v)=some (List.replicate (aax (ckH 4 (fe (Mw W 4) v))) W):=by kernel_rfl
def w_h(W:Nat)(v:Nat->Nat->Value){n:Nat}(h1:1<=n)(h4:n<=4):∃k,ckH n (fe (Mw W n) v)=some (List.replicate k W):=by
 obtain rfl|rfl|rfl|rfl:n=1\/n=2\/n=3\/n=4:=by omega
 .exact⟨_,aZ0 W v⟩
 .exact⟨_,aZZ W v⟩
 .exact⟨_,aZY W v⟩
 exact⟨_,aZX W v⟩
def aNl(W:Nat)(v:Nat->Nat->Value):Comes W (Sv W) [] [(7,0)] (mT CZ Tryz.prog 240 (HB (((0:Nat):Int)*KK) 0) (fe (Mw W 1) v)):=by unfold Comes;kernel_rfl
def aNk(W:Nat)(v:Nat->Nat->Value):Comes W (Sv W) [] [(7,0)] (mT CZ Tryz.prog 240 (HB (((0:Nat):Int)*KK) 0) (fe (Mw W 2) v)):=by unfold Comes;kernel_rfl
def aNj(W:Nat)(v:Nat->Nat->Value):Comes W (Sv W) [] [(7,0)] (mT CZ Tryz.prog 240 (HB (((1:Nat):Int)*KK) 0) (fe (Mw W 2) v)):=by unfold Comes;kernel_rfl
def aNi(W:Nat)(v:Nat->Nat->Value):Comes W (Sv W) [] [(7,0)] (mT CZ Tryz.prog 240 (HB (((0:Nat):Int)*KK) 0) (fe (Mw W 3) v)):=by unfold Comes;kernel_rfl
def aNh(W:Nat)(v:Nat->Nat->Value):Comes W (Sv W) [] [(7,0)] (mT CZ Tryz.prog 240 (HB (((1:Nat):Int)*KK) 0) (fe (Mw W 3) v)):=by unfold Comes;kernel_rfl
def aNg(W:Nat)(v:Nat->Nat->Value):Comes W (Sv W) [] [(7,0)] (mT CZ Tryz.prog 240 (HB (((2:Nat):Int)*KK) 0) (fe (Mw W 3) v)):=by unfold Comes;kernel_rfl
def aNf(W:Nat)(v:Nat->Nat->Value):Comes W (Sv W) [] [(7,0)] (mT CZ Tryz.prog 240 (HB (((0:Nat):Int)*KK) 0) (fe (Mw W 4) v)):=by unfold Comes;kernel_rfl
def aNe(W:Nat)(v:Nat->Nat->Value):Comes W (Sv W) [] [(7,0)] (mT CZ Tryz.prog 240 (HB (((1:Nat):Int)*KK) 0) (fe (Mw W 4) v)):=by unfold Comes;kernel_rfl
def aNd(W:Nat)(v:Nat->Nat->Value):Comes W (Sv W) [] [(7,0)] (mT CZ Tryz.prog 240 (HB (((2:Nat):Int)*KK) 0) (fe (Mw W 4) v)):=by unfold Comes;kernel_rfl
def aNc(W:Nat)(v:Nat->Nat->Value):Comes W (Sv W) [] [(7,0)] (mT CZ Tryz.prog 240 (HB (((3:Nat):Int)*KK) 0) (fe (Mw W 4) v)):=by unfold Comes;kernel_rfl
def w_m(W:Nat)(v:Nat->Nat->Value){n k:Nat}(h4:n<=4)(hk:k <n):Comes W (Sv W) [] [(7,0)] (mT CZ Tryz.prog 240 (HB ((k:Int)*KK) 0) (fe (Mw W n) v)):=by
 obtain rfl|rfl|rfl|rfl:n=1\/n=2\/n=3\/n=4:=by omega
 .obtain rfl:k=0:=by omega
  exact aNl W v
 .obtain rfl|rfl:k=0\/k=1:=by omega
  .exact aNk W v
  exact aNj W v
 .obtain rfl|rfl|rfl:k=0\/k=1\/k=2:=by omega
  .exact aNi W v
  .exact aNh W v
  exact aNg W v
 obtain rfl|rfl|rfl|rfl:k=0\/k=1\/k=2\/k=3:=by omega
 .exact aNf W v
 .exact aNe W v
 .exact aNd W v
 exact aNc W v
section
variable {ι:Type} {E:fY ι} {Fin:Goroutine->Prop} {c:Frame} {cs:List Frame}
def x3{P:Program}{main:Bool}{Live:World->Prop}{S S':Goroutine->Prop}(h:∀g,S g->S' g):∀ {n:Nat} {g:Goroutine},Pure P main Live S n g->Pure P main Live S' n g
 |0,g,hp=>h g hp
 |n+1,g,⟨h1,g',h2,h3⟩=>⟨h1,g',h2,x3 h h3⟩
end
def ajS{Hb:Nat}{W:kg}{x:cz}(hH:ro Hb=some (.pending ⟨W.cells (zS)⟩ 113))(hD:1<=W.D/\W.D<=4):iI zT 210 [zP Hb,.agg ⟨[zI x.a,zI x.b,zI x.c,zI x.d]⟩] ro (.bool (awc x W.D W.S)):=by
 refine zE<|zD 2<|jn λb3=>zD 12<|iz [1,1,0,1,0,0] [] (λ(zz:Nat×Nat)=>[(0,zP Hb),(3,zP b3),(5,zI (zz.2:Int)),(6,zI (zz.1:Int))]) (λzz=>[zxc b3 120 [zI x.a,zI x.b,zI x.c,zI x.d]]) (λzz=>(1<=zz.1/\(zz.1:Int)<=W.D+1/\zz.2 <zz.1)/\awc x W.D W.S=GU x W.D W.S zz.2 (List.range' zz.1 (W.D.toNat+1-zz.1))) (λzz=>W.D.toNat+1-zz.1) (⟨1,0⟩) ⟨by omega,rfl⟩ [0] ?_;rintro⟨k,f⟩ hI K1 cU rest;dsimp only at hI;refine zD 8<|jlh (b:=Hb) (off:=5) (l:=W.cells (zS)) hH (by decide) rfl<|zD 2<|zJ 13 ((k:Int)<=W.D) (λh1=>?_) λh1=>?_
 ·
  refine zD 12<|jlh (b:=Hb) (off:=5) (l:=W.cells (zS)) hH (by decide) rfl<|zD 2<|js 7 (decide ((k:Int) <W.D)) (λh2=>?_) (λh2=>?_)
  ·
   have nu:=h2;replace nu:=ah nu;refine zD 1<|Dk (b:=b3) (off:=0) (len:=4) (sz:=1) (k:Int) (by omega)<|yL (b:=b3) (off:=0+(k:Int).toNat*1) (m:=1) (vs:=[zI (x.at k)]) 0 [0] [(b3,.cells ⟨[zI x.a,zI x.b,zI x.c,zI x.d]⟩ 120 (0,0))] (λs _ hZ=>jR (hZ _ (.head _)) (vD (by omega)))<|zD 1<|Dk (b:=b3) (off:=0) (len:=4) (sz:=1) (f:Int) (by omega)<|yL (b:=b3) (off:=0+(f:Int).toNat*1) (m:=1) (vs:=[zI (x.at f)]) 0 [0] [(b3,.cells ⟨[zI x.a,zI x.b,zI x.c,zI x.d]⟩ 120 (0,0))] (λs _ hZ=>jR (hZ _ (.head _)) (vD (by omega)))<|zD 3<|zJ 31 ((x.at k)=(x.at f)) (λh3=>?_) λh3=>?_
   ·
    refine zD 4<|zW ((k:Int)+1)<|zD 2<|zY cU (⟨k+1,f⟩) ⟨by omega,hI.2.trans (aom (by omega) (by omega))⟩ [0]
   refine zD 6<|Dk (b:=b3) (off:=0) (len:=4) (sz:=1) (f:Int) (by omega)<|yL (b:=b3) (off:=0+(f:Int).toNat*1) (m:=1) (vs:=[zI (x.at f)]) 0 [0] [(b3,.cells ⟨[zI x.a,zI x.b,zI x.c,zI x.d]⟩ 120 (0,0))] (λs _ hZ=>jR (hZ _ (.head _)) (vD (by omega)))<|zD 2<|jj 3 [(0,zP Hb),(3,zP b3),(5,zI (f:Int)),(6,zI (k:Int)),(39,.bool ((!decide ((x.at f)=(-1)))&&(decide ((f:Int)>0))))] (λoX=>?_) (λhj=>?_);rotate_left;refine js 36 (!decide ((x.at f)=(-1))) (λh4=>?_) (λh4=>?_)
   ·
    have K0:=h4;replace K0:=af (by simpa using K0);refine zD 3<|zxw 39 hj (zya h4)
   ·
    have K0:=h4;replace K0:=ah (by simpa using K0);refine zD 3<|zxw 39 hj (zyb h4)
   refine zD 1<|jj 8 [(0,zP Hb),(3,zP b3),(5,zI (f:Int)),(6,zI (k:Int)),(48,.bool (((!decide ((x.at f)=(-1)))&&(decide ((f:Int)>0)))&&(decide ((k:Int) <W.D))))] (λoX=>?_) (λhj=>?_);rotate_left;refine js 40 ((!decide ((x.at f)=(-1)))&&(decide ((f:Int)>0))) (λh5=>?_) (λh5=>?_)
   ·
    have IP:=h5
    try simp only[zB] at IP
    refine zD 5<|jlh (b:=Hb) (off:=5) (l:=W.cells (zS)) hH (by decide) rfl<|zD 2<|zxw 48 hj (zya h5)
   ·
    have IP:=h5
    try simp only[zB] at IP
    refine zD 8<|zxw 48 hj (zyb h5)
   refine zD 1<|jj 10 [(0,zP Hb),(3,zP b3),(5,zI (f:Int)),(6,zI (k:Int)),(59,.bool ((((!decide ((x.at f)=(-1)))&&(decide ((f:Int)>0)))&&(decide ((k:Int) <W.D)))&&(decide (((k:Int)-(f:Int)) <W.S))))] (λoX=>?_) (λhj=>?_);rotate_left;refine js 49 (((!decide ((x.at f)=(-1)))&&(decide ((f:Int)>0)))&&(decide ((k:Int) <W.D))) (λh6=>?_) (λh6=>?_)
   ·
    have Ho:=h6
    try simp only[zB] at Ho
    refine zD 2<|zW ((k:Int)-(f:Int))<|zD 4<|jlh (b:=Hb) (off:=6) (l:=W.cells (zS)) hH (by decide) rfl<|zD 2<|zxw 59 hj (zya h6)
   ·
    have Ho:=h6
    try simp only[zB] at Ho
    refine zD 10<|zxw 59 hj (zyb h6)
   refine zD 1<|js 59 ((((!decide ((x.at f)=(-1)))&&(decide ((f:Int)>0)))&&(decide ((k:Int) <W.D)))&&(decide (((k:Int)-(f:Int)) <W.S))) (λh7=>?_) (λh7=>?_)
   ·
    try simp only[zB] at h7
    refine zD 6<|zX (.bool false) ⟨by rw[hI.2.trans (aon (by omega) (by omega) (by omega))],rfl⟩
   try simp only[zB] at h7
   refine zD 8<|zW ((k:Int)+1)<|zD 2<|zY cU (⟨k+1,k⟩) ⟨by omega,hI.2.trans (aoo (by omega) (by omega) (by omega))⟩ [0]
  have nu:=h2;replace nu:=af nu;refine zD 15<|Dk (b:=b3) (off:=0) (len:=4) (sz:=1) (f:Int) (by omega)<|yL (b:=b3) (off:=0+(f:Int).toNat*1) (m:=1) (vs:=[zI (x.at f)]) 0 [0] [(b3,.cells ⟨[zI x.a,zI x.b,zI x.c,zI x.d]⟩ 120 (0,0))] (λs _ hZ=>jR (hZ _ (.head _)) (vD (by omega)))<|zD 2<|jj 3 [(0,zP Hb),(3,zP b3),(5,zI (f:Int)),(6,zI (k:Int)),(39,.bool ((!decide ((x.at f)=(-1)))&&(decide ((f:Int)>0))))] (λoX=>?_) (λhj=>?_);rotate_left;refine js 36 (!decide ((x.at f)=(-1))) (λh8=>?_) (λh8=>?_)
  ·
   have h8g:=h8;replace h8g:=af (by simpa using h8g);refine zD 3<|zxw 39 hj (zya h8)
  ·
   have h8g:=h8;replace h8g:=ah (by simpa using h8g);refine zD 3<|zxw 39 hj (zyb h8)
  refine zD 1<|jj 8 [(0,zP Hb),(3,zP b3),(5,zI (f:Int)),(6,zI (k:Int)),(48,.bool (((!decide ((x.at f)=(-1)))&&(decide ((f:Int)>0)))&&(decide ((k:Int) <W.D))))] (λoX=>?_) (λhj=>?_);rotate_left;refine js 40 ((!decide ((x.at f)=(-1)))&&(decide ((f:Int)>0))) (λh9=>?_) (λh9=>?_)
  ·
   have h9g:=h9
   try simp only[zB] at h9g
   refine zD 5<|jlh (b:=Hb) (off:=5) (l:=W.cells (zS)) hH (by decide) rfl<|zD 2<|zxw 48 hj (zya h9)
  ·
   have h9g:=h9
   try simp only[zB] at h9g
   refine zD 8<|zxw 48 hj (zyb h9)
  refine zD 1<|jj 10 [(0,zP Hb),(3,zP b3),(5,zI (f:Int)),(6,zI (k:Int)),(59,.bool ((((!decide ((x.at f)=(-1)))&&(decide ((f:Int)>0)))&&(decide ((k:Int) <W.D)))&&(decide (((k:Int)-(f:Int)) <W.S))))] (λoX=>?_) (λhj=>?_);rotate_left;refine js 49 (((!decide ((x.at f)=(-1)))&&(decide ((f:Int)>0)))&&(decide ((k:Int) <W.D))) (λwq=>?_) (λwq=>?_)
  ·
   have W0:=wq
   try simp only[zB] at W0
   refine zD 2<|zW ((k:Int)-(f:Int))<|zD 4<|jlh (b:=Hb) (off:=6) (l:=W.cells (zS)) hH (by decide) rfl<|zD 2<|zxw 59 hj (zya wq)
  ·
   have W0:=wq
   try simp only[zB] at W0
   refine zD 10<|zxw 59 hj (zyb wq)
  refine zD 1<|js 59 ((((!decide ((x.at f)=(-1)))&&(decide ((f:Int)>0)))&&(decide ((k:Int) <W.D)))&&(decide (((k:Int)-(f:Int)) <W.S))) (λyX=>?_) (λyX=>?_)
  ·
   try simp only[zB] at yX
   refine zD 6<|zX (.bool false) ⟨by rw[hI.2.trans (aon (by omega) (by omega) (by omega))],rfl⟩
  try simp only[zB] at yX
  refine zD 8<|zW ((k:Int)+1)<|zD 2<|zY cU (⟨k+1,k⟩) ⟨by omega,hI.2.trans (aoo (by omega) (by omega) (by omega))⟩ [0]
 refine zD 7<|zX (.bool true) ⟨by rw[hI.2,show W.D.toNat+1-k=0 by omega];rfl,rfl⟩
end Go.L
