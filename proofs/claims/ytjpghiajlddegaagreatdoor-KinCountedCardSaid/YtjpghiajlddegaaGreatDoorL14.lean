/- Part 14 of the proof: a program logic, contracts, a theorem on goroutines. -/
import Derived.Test.YtjpghiajlddegaaGreatDoorL13
set_option maxRecDepth 100000
set_option linter.all false
namespace Go.L
open Go Go.Conc Go.Proofs
variable {rs:List cG} {f t x na nb:ByteArray} {vl c11 c0 c1 c5 c6 c7 vt:Value} {k b many b1 b2 bu b3 bl bm bt br bg n b4:Nat} {p:ByteArray×ByteArray} {xs:List Int} {l:List ByteArray} {Stop:Cells→Prop} {af gone new lo hi:Int}
def wV(w:ByteArray):Prop:=∀b∈w.data.toList,b.toNat <128∧kindOf (b.toNat:Int)=1
def aiR(w:ByteArray):Bool:=w.data.toList.all fun b=>Nat.blt b.toNat 128&&decide (kindOf (b.toNat:Int)=1)
theorem Fo{w:ByteArray}(h:aiR w=true):wV w:=fun b hb=>by
 have:=List.all_eq_true.1 h b hb
 simp only[Bool.and_eq_true,Nat.blt_eq,decide_eq_true_eq] at this
 exact this
def T4(r:cG):Bool:=(Nat.ble 1 r.f.size&&Nat.ble r.f.size 2)&&(Nat.ble r.t.size 2&&(aiR r.f&&(aiR r.t&& !cH r.f r.t)))
theorem WB:(amR.all fun f=>toW.all fun t=>T4 ⟨f,t⟩)=true:=by kernel_rfl
structure qU(r:cG):Prop where
 f1:1≤r.f.size∧r.f.size≤2
 t1:r.t.size≤2
 fl:wV r.f
 tl:wV r.t
 ne:cH r.f r.t=false
theorem aoo{r:cG}(h:GX r):qU r:=by
 have:=List.all_eq_true.1 (List.all_eq_true.1 WB r.f h.1) r.t h.2
 simp only[T4,Bool.and_eq_true,Nat.ble_eq,Bool.not_eq_true'] at this
 exact⟨this.1,this.2.1,Fo this.2.2.1,Fo this.2.2.2.1,this.2.2.2.2⟩
theorem axP{r:Int}{ro:Nat→Option Obj}:dz zT 235 [.int .i32 r] ro (.bool (!decide (kindOf r=1))):=by
 refine bA au [] [] bn<|zD 7<|jp (vs:=[.int .i32 r]) [] [] (fun aA hs hZ=>alN)<|zD 4<|aE q0 (.bool (!decide ((kindOf r)=1))) [] [] [] (Sub.refl _) ⟨_,_,rfl,rfl,rfl,rfl⟩
theorem aKD{w:ByteArray}{ro:Nat→Option Obj}(hK:wV w):dz zT 273 [.string w,.func (.func 235) ⟨[]⟩ ⟨[]⟩,.bool true] ro (zI (-1)):=by
 refine bA au [] [] bn<|zD 8<|jn fun r10=>zD 2<|ez [1,0,1,0,0] [] (fun(zz:Nat)=>[(1,.func (.func 235) ⟨[]⟩ ⟨[]⟩),(2,.bool true),(10,zP r10)]) (fun(zz:Nat)=>[.b r10 (.stringIter w zz)]) (fun(zz:Nat)=>zz≤w.data.toList.length) (fun(zz:Nat)=>w.data.toList.length-zz) 0 (by omega) [0] ?_
 rintro p hI K1 bM rest
 refine zD 2 ?_
 cases XK:w.data.toList[p]? with
 |some x11=>
  refine jnA r10 0 XK (hK _ (List.mem_of_getElem? XK)).1<|zD 14 ?_
  have Vk:=(hK _ (List.mem_of_getElem? XK)).2
  refine zD 3<|jp (vs:=[.int .i32 (x11.toNat:Int)]) [] [] (fun aA hs hZ=>axP)<|zD 1<|je (.bool ((!decide (kindOf (x11.toNat:Int)=1))==true)) rfl<|zD 1<|js 19 ((!decide (kindOf (x11.toNat:Int)=1))==true) (fun h1=>?_) (fun h1=>?_)
  ·
   exfalso;rw[Vk] at h1;cases h1
  refine zD 2<|bO bM (p+1) (by have:=(List.getElem?_eq_some_iff.1 XK).1;omega) (by have:=(List.getElem?_eq_some_iff.1 XK).1;omega) [0] (Sub.refl _)
 |none=>
  refine jnZ r10 0 XK<|zD 10<|aE q0 (zI (-1)) [] [] [] (Sub.refl _) ⟨_,_,rfl,rfl,rfl,rfl⟩
theorem awn{w:ByteArray}{ro:Nat→Option Obj}(hK:wV w):dz zT 256 [.string w,.func (.func 235) ⟨[]⟩ ⟨[]⟩] ro (zI (-1)):=by
 refine bA au [] [] bn<|zD 8<|jp (vs:=[.string w,.func (.func 235) ⟨[]⟩ ⟨[]⟩,.bool true]) [] [] (fun aA hs hZ=>(aKD hK))<|zD 3<|aE q0 (zI (-1)) [] [] [] (Sub.refl _) ⟨_,_,rfl,rfl,rfl,rfl⟩
theorem awp{w:ByteArray}{ro:Nat→Option Obj}(hK:wV w):dz zT 234 [.string w,.func (.func 235) ⟨[]⟩ ⟨[]⟩] ro (.bool false):=by
 refine bA au [] [] bn<|zD 8<|jp (vs:=[.string w,.func (.func 235) ⟨[]⟩ ⟨[]⟩]) [] [] (fun aA hs hZ=>(awn hK))<|zD 4<|aE q0 (.bool false) [] [] [] (Sub.refl _) ⟨_,_,rfl,rfl,rfl,rfl⟩
theorem NM{w:ByteArray}{ro:Nat→Option Obj}(hK:wV w)(hn:w.size≤1000):dz zT 216 [.string w,zI lo,zI hi] ro (.bool (decide (lo≤w.size)&&decide ((w.size:Int)≤hi))):=by
 refine bA au [] [] bn<|zD 11<|jj 5 [(0,.string w),(6,.bool false),(16,.bool ((decide (lo≤(w.size:Int)))&&(decide ((w.size:Int)≤hi))))] (fun gD=>?_) (fun hj=>?_)
 rotate_left
 refine js 11 (decide (lo≤(w.size:Int))) (fun h1=>?_) (fun h1=>?_)
 ·
  have fS:=h1
  replace fS:=of_decide_eq_true fS
  refine zD 5<|jw 16 (.bool ((decide (lo≤(w.size:Int)))&&(decide ((w.size:Int)≤hi)))) (w:= .bool (decide ((w.size:Int)≤hi))) (by rw[h1]<;>rfl) ?_
  exact hj _ (by kernel_rfl) (by kernel_rfl)
 ·
  have fS:=h1
  replace fS:=of_decide_eq_false fS
  refine zD 5<|jw 16 (.bool ((decide (lo≤(w.size:Int)))&&(decide ((w.size:Int)≤hi)))) (w:= .bool false) (by rw[h1]<;>rfl) ?_
  exact hj _ (by kernel_rfl) (by kernel_rfl)
 refine zD 1<|jj 4 [(6,.bool false),(21,.bool (((decide (lo≤(w.size:Int)))&&(decide ((w.size:Int)≤hi)))&&true))] (fun gD=>?_) (fun hj=>?_)
 rotate_left
 refine js 17 ((decide (lo≤(w.size:Int)))&&(decide ((w.size:Int)≤hi))) (fun h2=>?_) (fun h2=>?_)
 ·
  have kF:=h2
  try simp only[zB] at kF
  refine zD 1<|jp (vs:=[.string w,.func (.func 235) ⟨[]⟩ ⟨[]⟩]) [] [] (fun aA hs hZ=>(awp hK))<|zD 2<|jw 21 (.bool (((decide (lo≤(w.size:Int)))&&(decide ((w.size:Int)≤hi)))&&true)) (w:= .bool true) (by rw[h2]<;>rfl) ?_
  exact hj _ (by kernel_rfl) (by kernel_rfl)
 ·
  have kF:=h2
  try simp only[zB] at kF
  refine zD 4<|jw 21 (.bool (((decide (lo≤(w.size:Int)))&&(decide ((w.size:Int)≤hi)))&&true)) (w:= .bool false) (by rw[h2]<;>rfl) ?_
  exact hj _ (by kernel_rfl) (by kernel_rfl)
 refine zD 3<|aE q0 (.bool (((decide (lo≤(w.size:Int)))&&(decide ((w.size:Int)≤hi)))&&true)) [] [] [] (Sub.refl _) ⟨_,_,rfl,rfl,by simp_all,rfl⟩
theorem ID{w:ByteArray}{ro:Nat→Option Obj}(hK:wV w)(h1:lo≤w.size)(h2:(w.size:Int)≤hi)(h3:w.size≤1000):dz zT 216 [.string w,zI lo,zI hi] ro (.bool true):=by
 have:=NM (ro:=ro) hK h3 (lo:=lo) (hi:=hi)
 rw[decide_eq_true h1,decide_eq_true h2] at this
 exact this
theorem Xe{v:Value}{ro:Nat→Option Obj}(hv:bI ro v 2 jo rs)(hn:rs.length≤4)(hR:∀r∈rs,qU r):dz zT 195 [v] ro (zI 0):=by
 obtain⟨Nd,qvb,qvo,C2,rfl,qvk,Q0,QZ⟩:=hv
 refine bA au [] [] bn<|zD 11<|zJ 7 ((rs.length:Int)>4) (fun h1=>?_) fun h1=>?_
 ·
  exfalso;omega
 refine zD 10<|ez [1,1,0,1,0,0] [] (fun(zz:Nat)=>[(8,.slice Nd rs.length C2),(9,zI (rs.length:Int)),(10,zI (zz:Int))]) (fun(zz:Nat)=>[]) (fun(zz:Nat)=>zz≤rs.length) (fun(zz:Nat)=>rs.length-zz) 0 (by omega) [] ?_
 rintro k hI K1 bM rest
 refine zD 5<|zJ 11 ((k:Int) <(rs.length:Int)) (fun h2=>?_) fun h2=>?_
 ·
  refine zD 6 ?_
  obtain⟨sQ,pU⟩:=zG rs k
  refine ij C2 2 Q0 pU<|jl 0 (QZ _ _ pU)<|jn fun b4=>jd 3 [0] ?_
  have hrp:=(hR _ (List.mem_of_getElem? pU))
  have hrf:=hrp.f1
  have hrt:=hrp.t1
  refine jd 3 [0]<|jp (vs:=[.string sQ.f,zI 1,zI 2]) [] [] (fun aA hs hZ=>(ID hrp.fl (by omega) (by omega) (by omega)))<|jd 4 [0]<|jp (vs:=[.string sQ.t,zI 0,zI 2]) [] [] (fun aA hs hZ=>(ID hrp.tl (by omega) (by omega) (by omega)))<|jd 10 [0,0]<|js 30 (cH sQ.f sQ.t) (fun h3=>?_) (fun h3=>?_)
  ·
   exfalso;rw[hrp.ne] at h3;cases h3
  refine zD 3<|ja ((k:Int)+1) (by omega)<|zD 2<|bO bM (k+1) (by omega) (by omega) [] (Sub.refl _)
 refine zD 7<|aE q0 (zI 0) [] [] [] (Sub.refl _) ⟨_,_,rfl,rfl,rfl,rfl⟩
def iD:List Int→Int
 | []=>0
 |x::xs=>xs.foldl min x
def jE:List Int→Int
 | []=>0
 |x::xs=>xs.foldl max x
theorem apj{x:Int}(h:xs[0]?=some x):iD xs=(xs.drop 1).foldl min x:=by
 cases xs with
 |nil=>cases h
 |cons y l=>simp at h;subst h;rfl
theorem apk{x:Int}(h:xs[0]?=some x):jE xs=(xs.drop 1).foldl max x:=by
 cases xs with
 |nil=>cases h
 |cons y l=>simp at h;subst h;rfl
def sa(l:List Int):Int:=(l.filter fun x=>decide (x>0)).length
theorem Iz{l:List Int}{x:Int}(h:l[k]?=some x):sa (l.take (k+1))=sa (l.take k)+if x>0 then 1 else 0:=by
 rw[eY h,sa,List.filter_append,sa]
 by_cases hx:x>0<;>simp[hx]
structure av where
 past:Int
 w0:Int
 w1:Int
 w2:Int
 w3:Int
 gone:Int
 new:Int
 af:Int
abbrev cN(x:av):List Value:=[zI x.past,zI x.w0,zI x.w1,zI x.w2,zI x.w3,zI x.gone,zI x.new,zI x.af]
def di(g n m:Int)(x:av):Bool:=decide (x.gone≤g)&&(decide (x.new≤n)&&decide (x.af≤m))
def hasB(f i:Int):Bool:=decide (RB .u8 (aQ .u8 f i) 1=1)
theorem aKB{v:Value}{ro:Nat→Option Obj}(hl:bI ro v 1 cJ xs)(hn:0 <xs.length∧xs.length≤1000000):dz zT 110 [v] ro (zI (iD xs)):=by
 obtain⟨fp,rh,q9,eJ,rfl,tq,k8,me⟩:=hl
 refine bA au [] [] bn<|zD 11<|zJ 7 ((xs.length:Int) <1) (fun h1=>?_) fun h1=>?_
 ·
  exfalso;omega
 refine zD 5 ?_
 obtain⟨x10,rn⟩:=zG xs 0
 refine ij eJ 1 k8 rn<|jl 0 (me _ _ rn)<|zD 8<|ez [1,1,1,0,1,0,0] [] (fun(zz:Nat×Int)=>[(0,.slice fp xs.length eJ),(2,zI 0),(3,zI zz.2),(4,zI (zz.1:Int))]) (fun(zz:Nat×Int)=>[]) (fun(zz:Nat×Int)=>(1≤zz.1∧zz.1≤xs.length)∧iD xs=(xs.drop zz.1).foldl min zz.2) (fun(zz:Nat×Int)=>xs.length-zz.1) (⟨1,x10⟩) ⟨by dsimp only;omega,apj rn⟩ [] ?_
 rintro⟨k,m⟩ hI K1 bM rest
 dsimp only at hI
 refine zD 8<|zJ 15 ((k:Int) <(xs.length:Int)) (fun h2=>?_) fun h2=>?_
 ·
  refine zD 8 ?_
  obtain⟨xO,pS⟩:=zG xs k
  refine ij eJ 1 k8 pS<|jl 0 (me _ _ pS)<|jmn (k:= .i64) (a:=m) (b:=xO)<|zD 4<|ja ((k:Int)+1) (by omega)<|zD 2<|bO bM (⟨k+1,(min m xO)⟩) ⟨by dsimp only;omega,by rw[hI.2,fN pS];rfl⟩ (by dsimp only;omega) [] (Sub.refl _)
 refine zD 8<|aE q0 (zI m) [] [] [] (Sub.refl _) ⟨_,_,rfl,rfl,by rw[hI.2,eF (by omega)];rfl,rfl⟩
theorem aKC{v:Value}{ro:Nat→Option Obj}(hl:bI ro v 1 cJ xs)(hn:0 <xs.length∧xs.length≤1000000):dz zT 111 [v] ro (zI (jE xs)):=by
 obtain⟨fp,rh,q9,eJ,rfl,tq,k8,me⟩:=hl
 refine bA au [] [] bn<|zD 11<|zJ 7 ((xs.length:Int) <1) (fun h1=>?_) fun h1=>?_
 ·
  exfalso;omega
 refine zD 5 ?_
 obtain⟨x10,rn⟩:=zG xs 0
 refine ij eJ 1 k8 rn<|jl 0 (me _ _ rn)<|zD 8<|ez [1,1,1,0,1,0,0] [] (fun(zz:Nat×Int)=>[(0,.slice fp xs.length eJ),(2,zI 0),(3,zI zz.2),(4,zI (zz.1:Int))]) (fun(zz:Nat×Int)=>[]) (fun(zz:Nat×Int)=>(1≤zz.1∧zz.1≤xs.length)∧jE xs=(xs.drop zz.1).foldl max zz.2) (fun(zz:Nat×Int)=>xs.length-zz.1) (⟨1,x10⟩) ⟨by dsimp only;omega,apk rn⟩ [] ?_
 rintro⟨k,m⟩ hI K1 bM rest
 dsimp only at hI
 refine zD 8<|zJ 15 ((k:Int) <(xs.length:Int)) (fun h2=>?_) fun h2=>?_
 ·
  refine zD 8 ?_
  obtain⟨xO,pS⟩:=zG xs k
  refine ij eJ 1 k8 pS<|jl 0 (me _ _ pS)<|jmx (k:= .i64) (a:=m) (b:=xO)<|zD 4<|ja ((k:Int)+1) (by omega)<|zD 2<|bO bM (⟨k+1,(max m xO)⟩) ⟨by dsimp only;omega,by rw[hI.2,fN pS];rfl⟩ (by dsimp only;omega) [] (Sub.refl _)
 refine zD 8<|aE q0 (zI m) [] [] [] (Sub.refl _) ⟨_,_,rfl,rfl,by rw[hI.2,eF (by omega)];rfl,rfl⟩
theorem UW{v:Value}{ro:Nat→Option Obj}(hl:bI ro v 1 cJ xs)(hn:0 <xs.length∧xs.length≤1000000):dz zT 82 [v] ro (.agg ⟨[zI (iD xs),zI (jE xs)]⟩):=by
 obtain⟨fp,rh,q9,eJ,rfl,tq,k8,me⟩:=hl
 refine bA au [] [] bn<|zD 2<|jn fun b2=>zD 4<|jp (vs:=[.slice fp xs.length eJ]) [] [] (fun aA hs hZ=>aKB ((show bI _ _ _ _ _ from ⟨fp,rh,q9,eJ,rfl,tq,k8,me⟩).up hs) (by omega))<|zD 1<|jp (vs:=[.slice fp xs.length eJ]) [] [] (fun aA hs hZ=>aKC ((show bI _ _ _ _ _ from ⟨fp,rh,q9,eJ,rfl,tq,k8,me⟩).up hs) (by omega))<|jd 4 [0]<|aE q0 (.agg ⟨[zI (iD xs),zI (jE xs)]⟩) [0] [] [] (Sub.refl _) ⟨_,_,rfl,rfl,rfl,rfl⟩
theorem ajd{x:av}{ro:Nat→Option Obj}:dz zT 81 [.agg ⟨[zI x.past,zI x.w0,zI x.w1,zI x.w2,zI x.w3,zI x.gone,zI x.new,zI x.af]⟩] ro (.bool true):=by
 refine bA au [] [] bn<|zD 2<|jn fun b1=>zD 7<|aE q0 (.bool true) [] [] [] (Sub.refl _) ⟨_,_,rfl,rfl,rfl,rfl⟩
theorem aca{f:Nat}{x:av}{c2 c3 c4:Value}{ro:Nat→Option Obj}(hf:ro f=some (.cells ⟨[c0,c1,c2,c3,c4,c5,c6,c7,zI gone,zI new,zI af,c11,vt]⟩ 116 (0,0))):dz zT 73 [zP f,.agg ⟨[zI x.past,zI x.w0,zI x.w1,zI x.w2,zI x.w3,zI x.gone,zI x.new,zI x.af]⟩] ro (.bool (di gone new af x)):=by
 refine bA au [] [] bn<|zD 2<|jn fun b3=>jd 10 [0]<|jl (b:=f) (off:=0) (m:=13) (vs:=[c0,c1,c2,c3,c4,c5,c6,c7,zI gone,zI new,zI af,c11,vt]) 8 ⟨_,_,_,.inl hf,rfl⟩<|zD 2<|js 8 (decide (x.gone≤gone)) (fun h1=>?_) (fun h1=>?_)
 ·
  have fS:=h1
  replace fS:=of_decide_eq_true fS
  refine jd 6 [0]<|jl (b:=f) (off:=0) (m:=13) (vs:=[c0,c1,c2,c3,c4,c5,c6,c7,zI gone,zI new,zI af,c11,vt]) 9 ⟨_,_,_,.inl hf,rfl⟩<|zD 3<|js 18 (decide (x.new≤new)) (fun h2=>?_) (fun h2=>?_)
  ·
   have kF:=h2
   replace kF:=of_decide_eq_true kF
   refine jd 6 [0]<|jl (b:=f) (off:=0) (m:=13) (vs:=[c0,c1,c2,c3,c4,c5,c6,c7,zI gone,zI new,zI af,c11,vt]) 10 ⟨_,_,_,.inl hf,rfl⟩<|zD 5<|aE q0 (.bool (decide (x.af≤af))) [] [] [] (Sub.refl _) ⟨_,_,rfl,rfl,by simp_all[di]<;>(intros;omega),rfl⟩
  have kF:=h2
  replace kF:=of_decide_eq_false kF
  refine zD 12<|aE q0 (.bool false) [] [] [] (Sub.refl _) ⟨_,_,rfl,rfl,by simp_all[di]<;>(intros;omega),rfl⟩
 have fS:=h1
 replace fS:=of_decide_eq_false fS
 refine zD 22<|aE q0 (.bool false) [] [] [] (Sub.refl _) ⟨_,_,rfl,rfl,by simp_all[di]<;>(intros;omega),rfl⟩
theorem apX{f i:Int}{ro:Nat→Option Obj}(hi:0≤i∧i≤8):dz zT 75 [.int .u8 f,zI i] ro (.bool (hasB f i)):=by
 refine bA au [] [] bn<|zD 8<|jsr (k:= .u8) (k':= .i64) (a:=f) (b:=i) 99 (by omega)<|zD 5<|aE q0 (.bool (decide ((RB .u8 (aQ .u8 f i) 1)=1))) [] [] [] (Sub.refl _) ⟨_,_,rfl,rfl,rfl,rfl⟩
theorem apE{p0 p1 p2 p3:Int}{ro:Nat→Option Obj}:dz zT 102 [.agg ⟨[zI p0,zI p1,zI p2,zI p3]⟩] ro (zI (sa [p0,p1,p2,p3])):=by
 refine bA au [] [] bn<|zD 2<|jn fun b1=>jd 13 [0]<|ez [1,1,0,1,0,0] [] (fun(zz:Nat×Int)=>[(2,zI 0),(3,zI zz.2),(6,.agg ⟨[zI p0,zI p1,zI p2,zI p3]⟩),(7,zI (zz.1:Int))]) (fun(zz:Nat×Int)=>[]) (fun(zz:Nat×Int)=>zz.1≤4∧zz.2=sa ([p0,p1,p2,p3].take zz.1)∧(0≤zz.2∧zz.2≤zz.1)) (fun(zz:Nat×Int)=>4-zz.1) (⟨0,0⟩) ⟨by omega,rfl,by omega⟩ [] ?_
 rintro⟨k,n⟩ hI K1 bM rest
 dsimp only at hI
 refine zD 5<|zJ 8 ((k:Int) <4) (fun h1=>?_) fun h1=>?_
 ·
  refine zD 6 ?_
  obtain⟨x9,YS⟩:=zG ([p0,p1,p2,p3]:List Int) k (show k <4 from by omega)
  refine jai (l:=[zI p0,zI p1,zI p2,zI p3]) (k:Int) 4 1 false (by omega) (v:= zI x9) (show nth _ (k*1)=_ by rw[Nat.mul_one];exact aL0 YS) ?_
  refine zD 7<|zJ 11 (x9>0) (fun h2=>?_) fun h2=>?_
  ·
   refine zD 3<|ja (n+1) (by omega)<|zD 3<|ja ((k:Int)+1) (by omega)<|zD 2<|bO bM (⟨k+1,(n+1)⟩) ⟨by dsimp only;omega,by rw[Iz YS,if_pos (by assumption),hI.2.1],by dsimp only;omega⟩ (by dsimp only;omega) [] (Sub.refl _)
  refine zD 3<|ja ((k:Int)+1) (by omega)<|zD 2<|bO bM (⟨k+1,n⟩) ⟨by dsimp only;omega,by rw[Iz YS,if_neg (by assumption),hI.2.1,Int.add_zero],by dsimp only;omega⟩ (by dsimp only;omega) [] (Sub.refl _)
 refine zD 8<|aE q0 (zI n) [] [] [] (Sub.refl _) ⟨_,_,rfl,rfl,by rw[hI.2.1,show k=4 by omega];rfl,rfl⟩
theorem qI{α:Type}{xs:List α}{a:Option Addr}{o:Nat}(h:∀k,k <xs.length→a=some ⟨b,o,none⟩)(hn:a.isNone=true):xs=[]:=by
 cases xs with
 |nil=>rfl
 |cons x l=>rw[h 0 (by simp)] at hn;cases hn
theorem aol{v:Value}{xs:List ByteArray}{ro:Nat→Option Obj}(hl:bI ro v 1 oU xs)(hn:xs.length≤1000):eo zT 239 [v] ro [] (fun r Y=>∃L,az r 1 9 oU xs L∧Y=L):=by
 obtain⟨fp,rh,q9,eJ,rfl,tq,k8,me⟩:=hl
 refine bA au [] [] bn<|zD 8<|jsn 127 (a:=fp) (l:=xs.length) (c:=eJ)<|zD 1<|js 4 (fp.isNone) (fun h1=>?_) (fun h1=>?_)
 ·
  refine zD 6<|aE q0 (zS) [] [] [] (Sub.refl _) ⟨_,_,rfl,rfl,[],by rw[qI k8 (by assumption)];exact az.nil _ _ _,rfl⟩
 refine zD 4<|jn fun b5=>zD 1<|ku (sz:=1) (ps:=[]) (qs:=xs) (enc:=oU) (w:= .slice fp xs.length eJ) [0] [] [] (cD (b:=b5) (T:=9)) (fun s he _=>⟨fp,rh,q9,eJ,rfl,k8,fun i p hp=>(me i p hp).ext he⟩) (fun p _=>an rfl) (by simp<;>omega) (fun v7 L7 ia=>?_)
 rw[List.nil_append] at ia
 obtain⟨Qo,Qk,OF⟩:=ia.form
 subst OF
 refine zD 3<|aE q0 ((.slice Qo (xs).length Qk)) [] [0] L7 (Sub.refl _) ⟨_,_,rfl,rfl,_,ia,rfl⟩
theorem aMm{f:Nat}{fs:List gV}{c2 c3 c4:Value}{ro:Nat→Option Obj}(hx:bI ro c11 3 vM fs)(hf:ro f=some (.cells ⟨[c0,c1,c2,c3,c4,c5,c6,c7,zI gone,zI new,zI af,c11,vt]⟩ 116 (0,0)))(hn:fs.length≤7):dz zT 37 [zP f] ro (.int .u8 (IntKind.u8.wrap (dt .u8 1 (fs.length:Int)-1))):=by
 obtain⟨qxa,qxb,qxo,qxc,rfl,qxk,qxh,qxl⟩:=hx
 refine bA au [] [] bn<|zD 10<|jl (b:=f) (off:=0) (m:=13) (vs:=[c0,c1,c2,c3,c4,c5,c6,c7,zI gone,zI new,zI af,.slice qxa fs.length qxc,vt]) 11 ⟨_,_,_,.inl hf,rfl⟩<|zD 1<|jsh (k:= .u8) (k':= .i64) (a:=1) (b:=(fs.length:Int)) 99 (by omega)<|zD 4<|aE q0 (.int .u8 (IntKind.u8.wrap ((dt .u8 1 (fs.length:Int))-1))) [] [] [] (Sub.refl _) ⟨_,_,rfl,rfl,rfl,rfl⟩
theorem yb{r:Value}{A B:Prop}(h:(r= .bool true∧A)∨(r= .bool false∧B)):∃c,r= .bool c∧(c=true→A)∧(c=false→B):=by
 rcases h with ⟨rfl,h⟩| ⟨rfl,h⟩
 ·exact⟨true,rfl,fun _=>h,nofun⟩
 exact⟨false,rfl,nofun,fun _=>h⟩
def ub(w f t:ByteArray)(i:Nat):ByteArray:=w.extract 0 (i:Int).toNat++t++w.extract ((i:Int)+(f.size:Int)).toNat w.size
def pz(w f t:ByteArray)(i:Nat):Option ByteArray:=if r5 (w.extract i w.size) f=true∧1≤(ub w f t i).size∧(ub w f t i).size≤12 then some (ub w f t i) else none
def uy(w f t:ByteArray)(k:Nat):List ByteArray:=(List.range k).filterMap (pz w f t)
def Ce(w f t:ByteArray):List ByteArray:=uy w f t (w.size+1)
theorem A4(w f t:ByteArray)(k:Nat):uy w f t (k+1)=uy w f t k++(pz w f t k).toList:=by
 rw[uy,uy,List.range_succ,List.filterMap_append]
 cases h:pz w f t k<;>simp[h]
theorem aas(w f t:ByteArray)(h:k≤n):∃l,uy w f t n=uy w f t k++l:=by
 induction n with
 |zero=>exact⟨[],by rw[show k=0 by omega];simp⟩
 |succ n ih=>
  by_cases hk:k=n+1
  ·exact⟨[],by rw[hk];simp⟩
  obtain⟨l,hl⟩:=ih (by omega)
  exact⟨l++(pz w f t n).toList,by rw[A4,hl,List.append_assoc]⟩
theorem Na{w:ByteArray}(hk:k <n)(h:pz w f t k=some x):(uy w f t n)[(uy w f t k).length]?=some x∧(uy w f t (k+1)).length=(uy w f t k).length+1:=by
 obtain⟨l,hl⟩:=aas w f t (k:=k+1) (n:=n) hk
 rw[hl,A4,h]
 constructor
 ·rw[List.append_assoc,List.getElem?_append_right (Nat.le_refl _)];simp
 simp
theorem T8{w:ByteArray}(h:pz w f t k=none):(uy w f t (k+1)).length=(uy w f t k).length:=by
 rw[A4,h];simp
abbrev amU(l:List ByteArray):(Nat→Option Obj)→Nat→List Value→Cells→Prop:=fun _ k vs LL=>∃x,l[k]?=some x∧vs=[.string x]∧LL=[]
theorem wV.ext{w:ByteArray}(h:wV w)(i j:Nat):wV (w.extract i j):=by
 intro b hb
 refine h b ?_
 have:(w.extract i j).data.toList=(w.data.extract i j).toList:=by simp[ByteArray.data_extract]
 rw[this,Array.toList_extract] at hb
 simp only[List.extract_eq_drop_take] at hb
 exact List.mem_of_mem_drop (List.mem_of_mem_take hb)
theorem wV.app{v w:ByteArray}(h:wV v)(k:wV w):wV (v++w):=by
 intro b hb
 have:(v++w).data.toList=v.data.toList++w.data.toList:=by simp[ByteArray.data_append]
 rw[this] at hb
 exact(List.mem_append.1 hb).elim (h b) (k b)
theorem Ih{w:ByteArray}{i:Nat}(hw:wV w)(ht:wV t):wV (ub w f t i):=((hw.ext _ _).app ht).app (hw.ext _ _)
theorem aaN{a b:ByteArray}(h:r5 a b=true):b.size≤a.size:=by
 unfold r5 at h
 simp only[Bool.and_eq_true,decide_eq_true_eq] at h
 omega
def abL(w:ByteArray):Bool:=decide ((1:Int)≤w.size)&&decide ((w.size:Int)≤12)
theorem QQ{w:ByteArray}(h:r5 (w.extract (k:Int).toNat w.size) f=false):pz w f t k=none:=if_neg fun x=>by
 have h1:r5 (w.extract k w.size) f=false:=h
 rw[h1] at x;cases x.1
theorem WE{w:ByteArray}(h:abL (ub w f t k)=false):pz w f t k=none:=if_neg fun x=>by
 simp only[abL,Bool.and_eq_false_iff,decide_eq_false_iff_not] at h
 omega
theorem QP{w:ByteArray}(h:r5 (w.extract (k:Int).toNat w.size) f=true)(h2:abL (ub w f t k)=true):pz w f t k=some (ub w f t k):=if_pos ⟨h,by
 simp only[abL,Bool.and_eq_true,decide_eq_true_eq] at h2
 omega⟩
theorem QO{w:ByteArray}(h:w.size≤100∧f.size≤100∧t.size≤100):(ub w f t k).size≤1000:=by
 simp only[ub,ByteArray.size_append,ByteArray.size_extract];omega
theorem ah3{w:ByteArray}(hk:k≤w.size)(h:pz w f t k=some (ub w f t k)):(uy w f t k).length <(Ce w f t).length∧(Ce w f t)[(uy w f t k).length]?=some (ub w f t k):=by
 have:=(Na (n:=w.size+1) (by omega) h).1
 exact⟨(List.getElem?_eq_some_iff.1 this).1,this⟩
theorem SS(w:ByteArray)(a b:Nat):(w.extract a b).size≤w.size:=by simp;omega
theorem ae9(w:ByteArray)(i:Nat)(h:i≤w.size):(w.extract i w.size).size=w.size-i:=by simp
theorem aiG{w:ByteArray}{ro:Nat→Option Obj}(g1:ro b1=some (.cells ⟨[.string w]⟩ 291 (0,0)))(g2:ro b2=some (.cells ⟨[.string f]⟩ 9 (0,0)))(g3:ro b3=some (.cells ⟨[.string t]⟩ 9 (0,0)))(hw:wV w)(ht:wV t)(hn:w.size≤100∧f.size≤100∧t.size≤100):ItX zT 281 [] [zP b1,zP b2,zP b3] ro [] (Ce w f t).length (amU (Ce w f t)) (fun Z=>Z=[]):=by
 intro bl aA Inv Stop hs hy B hB
 replace g1:=hs _ _ g1
 replace g2:=hs _ _ g2
 replace g3:=hs _ _ g3
 refine bA au [.l B] [] bn<|zD 2<|jl (b:=b1) (off:=0) (m:=1) (vs:=[.string w]) 0 ⟨_,_,_,.inl g1,rfl⟩<|zD 1<|ja ((w.size:Int)+1) (by omega)<|zD 3<|ez [1,0,0] [] (fun(zz:Nat×Cells)=>[(0,(.func (.yield bl) #[] #[])),(1,zP b1),(2,zP b2),(3,zP b3),(9,zI ((w.size:Int)+1)),(10,zI (zz.1:Int))]) (fun(zz:Nat×Cells)=>[.l zz.2]) (fun(zz:Nat×Cells)=>zz.1≤w.size+1∧Inv (uy w f t zz.1).length zz.2) (fun(zz:Nat×Cells)=>w.size+1-zz.1) (⟨0,B⟩) ⟨by dsimp only;omega,hB⟩ [0] ?_
 rintro⟨k,B⟩ hI K1 bM rest
 dsimp only at hI
 refine zD 5<|zJ 11 ((k:Int) <((w.size:Int)+1)) (fun h1=>?_) fun h1=>?_
 ·
  refine zD 11 ?_
  have qn:=SS w (k:Int).toNat w.size
  refine zD 1<|jl (b:=b1) (off:=0) (m:=1) (vs:=[.string w]) 0 ⟨_,_,_,.inl g1,rfl⟩<|zD 1<|jtL (b:=w) (lo:=(k:Int)) (by omega)<|jl (b:=b2) (off:=0) (m:=1) (vs:=[.string f]) 0 ⟨_,_,_,.inl g2,rfl⟩<|jp (vs:=[.string (w.extract (k:Int).toNat w.size),.string f]) [] [] (fun aA hs hZ=>(XT (by omega)))<|zD 2<|js 18 (!(r5 (w.extract (k:Int).toNat w.size) f)) (fun h2=>?_) (fun h2=>?_)
  ·
   try simp only[zB] at h2
   refine zD 3<|ja ((k:Int)+1) (by omega)<|zD 2<|bO bM (⟨k+1,B⟩) ⟨by dsimp only;omega,by dsimp only;rw[T8 (QQ (by assumption))];exact hI.2⟩ (by dsimp only;omega) [0] (Sub.refl _)
  try simp only[zB] at h2
  refine zD 3 ?_
  have Dk:=SS w 0 (k:Int).toNat
  have Se:=SS w ((k:Int)+(f.size:Int)).toNat w.size
  have he4:(w.extract 0 (k:Int).toNat++t).size=_:=ByteArray.size_append
  have hpr:r5 (w.extract (k:Int).toNat w.size) f=true:=by assumption
  have PY:=aaN hpr
  rw[ae9 _ _ (by omega)] at PY
  refine zD 1<|jl (b:=b1) (off:=0) (m:=1) (vs:=[.string w]) 0 ⟨_,_,_,.inl g1,rfl⟩<|zD 1<|jtH (b:=w) (hi:=(k:Int)) (by omega)<|jl (b:=b3) (off:=0) (m:=1) (vs:=[.string t]) 0 ⟨_,_,_,.inl g3,rfl⟩<|jsa (a:=(w.extract 0 (k:Int).toNat)) (b:=t) 291 (by omega)<|jl (b:=b1) (off:=0) (m:=1) (vs:=[.string w]) 0 ⟨_,_,_,.inl g1,rfl⟩<|zD 1<|jl (b:=b2) (off:=0) (m:=1) (vs:=[.string f]) 0 ⟨_,_,_,.inl g2,rfl⟩<|zD 1<|ja ((k:Int)+(f.size:Int)) (by omega)<|jtL (b:=w) (lo:=((k:Int)+(f.size:Int))) (by omega)<|jsa (a:=((w.extract 0 (k:Int).toNat)++t)) (b:=(w.extract ((k:Int)+(f.size:Int)).toNat w.size)) 291 (by omega)<|zD 5<|jp (vs:=[.string (((w.extract 0 (k:Int).toNat)++t)++(w.extract ((k:Int)+(f.size:Int)).toNat w.size)),zI 1,zI 12]) [] [] (fun aA hs hZ=>(NM (Ih (i:=k) hw ht) (QO hn)))<|zD 1<|js 33 (abL (ub w f t k)) (fun h3=>?_) (fun h3=>?_)
  ·
   have hry:=QP (t:=t) hpr (by assumption)
   have PX:=ah3 (by omega) hry
   refine zD 2<|jyc [0] (hy (uy w f t k).length _ [] B aA PX.1 ⟨_,PX.2,rfl,rfl⟩ hI.2 (Sub.refl _)) (Sub.refl _) ?_
   intro v4 Y4 hy4
   obtain⟨c4,rfl,hc4,hd4⟩:=yb hy4
   refine zD 3<|js 38 (!c4) (fun h5=>?_) (fun h5=>?_)
   ·
    try simp only[zB] at h5
    refine zD 2<|aE q0 (.tuple ⟨[]⟩) [] [0] Y4 (Sub.refl _) ⟨_,_,rfl,rfl,[],Y4,rfl,rfl,.inr (hd4 (by simp_all))⟩
   try simp only[zB] at h5
   refine zD 3<|ja ((k:Int)+1) (by omega)<|zD 2<|bO bM (⟨k+1,Y4⟩) ⟨by dsimp only;omega,by dsimp only;rw[(Na (n:=k+1) (by omega) hry).2];exact hc4 (by assumption)⟩ (by dsimp only;omega) [0] (Sub.refl _)
  refine zD 9<|ja ((k:Int)+1) (by omega)<|zD 2<|bO bM (⟨k+1,B⟩) ⟨by dsimp only;omega,by dsimp only;rw[T8 (WE (by assumption))];exact hI.2⟩ (by dsimp only;omega) [0] (Sub.refl _)
 refine zD 2<|aE q0 (.tuple ⟨[]⟩) [] [0] B (Sub.refl _) ⟨_,_,rfl,rfl,[],B,rfl,rfl,.inl (by have:=hI.2;rwa[show k=w.size+1 by omega] at this)⟩
def pH(rs:List cG):List (ByteArray×ByteArray):=rs.flatMap fun r=>[(r.f,r.t),(r.t,r.f)]
abbrev eP2(x:ByteArray×ByteArray):List Value:=[.string x.1,.string x.2]
def iY(w:ByteArray)(ps:List (ByteArray×ByteArray)):List ByteArray:=ps.flatMap fun p=>Ce w p.1 p.2
def rN(w:ByteArray)(rs:List cG):List ByteArray:=iY w (pH rs)
theorem IB:∀(rs:List cG),(pH rs).length=2*rs.length
 | []=>rfl
 |r::rs=>by have:=IB rs;simp only[pH,List.flatMap_cons,List.length_append,List.length_cons,List.length_nil] at this ⊢;omega
theorem Nt:∀ {rs:List cG} {k q:Nat} {r:cG} {p:ByteArray×ByteArray},rs[k]?=some r→[(r.f,r.t),(r.t,r.f)][q]?=some p→(pH rs)[2*k+q]?=some p
 | [],_,_,_,_,h,_=>by simp at h
 |r::rs,0,q,_,p,h,h2=>by
  simp only[List.getElem?_cons_zero,Option.some.injEq] at h;subst h
  simp only[pH,List.flatMap_cons,Nat.mul_zero,Nat.zero_add]
  rw[List.getElem?_append_left (by have:=(List.getElem?_eq_some_iff.1 h2).1;exact this)];exact h2
 |r::rs,k+1,q,_,p,h,h2=>by
  have:=Nt (rs:=rs) (k:=k) (by simpa using h) h2
  simp only[pH,List.flatMap_cons]
  rw[List.getElem?_append_right (by simp;omega)]
  rw[show 2*(k+1)+q- [(r.f,r.t),(r.t,r.f)].length=2*k+q by simp;omega];exact this
theorem En{w:ByteArray}{ps:List (ByteArray×ByteArray)}(h:ps[k]?=some p):iY w (ps.take (k+1))=iY w (ps.take k)++Ce w p.1 p.2:=by
 rw[iY,eY h,List.flatMap_append];simp[iY]
theorem ahL{w:ByteArray}{ps:List (ByteArray×ByteArray)}{j:Nat}(h:ps[k]?=some p) (hx:(Ce w p.1 p.2)[j]?=some x):(iY w (ps.take k)).length+j <(iY w ps).length∧(iY w ps)[(iY w (ps.take k)).length+j]?=some x:=by
 have e:iY w ps=iY w (ps.take (k+1))++iY w (ps.drop (k+1)):=by rw[iY,iY,iY,←List.flatMap_append,List.take_append_drop]
 have hj:=(List.getElem?_eq_some_iff.1 hx).1
 have:(iY w ps)[(iY w (ps.take k)).length+j]?=some x:=by
  rw[e,En h,List.append_assoc,List.getElem?_append_right (by omega),List.getElem?_append_left (by omega),show (iY w (ps.take k)).length+j-(iY w (ps.take k)).length=j by omega]
  exact hx
 exact⟨(List.getElem?_eq_some_iff.1 this).1,this⟩
theorem aio{r:cG}{q:Nat}(h:qU r)(hp: [(r.f,r.t),(r.t,r.f)][q]?=some p):wV p.2∧(p.1.size≤100∧p.2.size≤100):=by
 have:=List.mem_of_getElem? hp
 have h1:=h.f1;have h2:=h.t1
 simp only[List.mem_cons,List.not_mem_nil,or_false] at this
 rcases this with rfl|rfl
 ·exact⟨h.tl,by dsimp only;omega,by dsimp only;omega⟩
 exact⟨h.fl,by dsimp only;omega,by dsimp only;omega⟩
theorem Xf{w:ByteArray}{ro:Nat→Option Obj}:eo zT 264 [.string w,.string f,.string t] ro [] (fun r Y=>∃b3 b4 b5,r= .func (.func 281) ⟨[]⟩ ⟨[zP b3,zP b4,zP b5]⟩∧Y=[(b3,.cells ⟨[.string w]⟩ 291 (0,0)),(b4,.cells ⟨[.string f]⟩ 9 (0,0)),(b5,.cells ⟨[.string t]⟩ 9 (0,0))]):=by
 refine bA au [] [] bn<|zD 2<|jn fun b3=>jn fun b4=>jn fun b5=>zD 8<|aE q0 (.func (.func 281) ⟨[]⟩ ⟨[zP b3,zP b4,zP b5]⟩) [] [2,1,0] ((b3,.cells ⟨[.string w]⟩ 291 (0,0))::((b4,.cells ⟨[.string f]⟩ 9 (0,0))::[(b5,.cells ⟨[.string t]⟩ 9 (0,0))])) (Sub.refl _) ⟨_,_,rfl,rfl,_,_,_,rfl,rfl⟩
theorem apd{w:ByteArray}{ro:Nat→Option Obj}(hl:bI ro vl 2 jo rs):eo zT 240 [.string w,vl] ro [] (fun r Y=>∃b2 b3,r= .func (.func 263) ⟨[]⟩ ⟨[zP b3,zP b2]⟩∧Y=[(b2,.cells ⟨[.string w]⟩ 291 (0,0)),(b3,.cells ⟨[vl]⟩ 34 (0,0))]):=by
 obtain⟨fp,rh,q9,eJ,rfl,tq,k8,me⟩:=hl
 refine bA au [] [] bn<|zD 2<|jn fun b2=>jn fun b3=>zD 8<|aE q0 (.func (.func 263) ⟨[]⟩ ⟨[zP b3,zP b2]⟩) [] [1,0] ((b2,.cells ⟨[.string w]⟩ 291 (0,0))::[(b3,.cells ⟨[.slice fp rs.length eJ]⟩ 34 (0,0))]) (Sub.refl _) ⟨_,_,rfl,rfl,_,_,rfl,rfl⟩
theorem aiF{w:ByteArray}{ro:Nat→Option Obj}(g1:ro b1=some (.cells ⟨[vl]⟩ 34 (0,0)))(hl:bI ro vl 2 jo rs)(hR:∀r∈rs,qU r)(g2:ro b2=some (.cells ⟨[.string w]⟩ 291 (0,0)))(hw:wV w)(hn:w.size≤100)(hq:rs.length≤100):ItX zT 263 [] [zP b1,zP b2] ro [] (rN w rs).length (amU (rN w rs)) (fun Z=>Z=[]):=by
 intro bl aA Inv Stop hs hy B hB
 replace g1:=hs _ _ g1
 replace g2:=hs _ _ g2
 replace hl:=hl.up hs
 obtain⟨fp,rh,q9,eJ,rfl,tq,k8,me⟩:=hl
 refine ajk au [.l B] [] bn<|zD 2<|jn fun b3=>jf [0] [(b3,.cells ⟨[(.func (.yield bl) #[] #[])]⟩ 358 (0,0))] fun AI bV iT=>zD 3<|jl (b:=b1) (off:=0) (m:=1) (vs:=[.slice fp rs.length eJ]) 0 ⟨_,_,_,.inl (bV _ _ g1),rfl⟩<|zD 4<|pQ<|ayl [1,1,0,0] [] (fun(zz:Nat×(List Nat)×Cells)=>[(2,zP b2),(3,zP b3),(9,.slice fp rs.length eJ),(10,zI (rs.length:Int)),(11,zI (zz.1:Int))]) (fun(zz:Nat×(List Nat)×Cells)=>[.l (mk zz.2.1),.l zz.2.2]) (fun(zz:Nat×(List Nat)×Cells)=>(zz.2.1.map dS)) (fun(zz:Nat×(List Nat)×Cells)=>zz.1≤rs.length∧Inv (iY w ((pH rs).take (2*zz.1))).length zz.2.2) (fun(zz:Nat×(List Nat)×Cells)=>rs.length-zz.1) (⟨0,[],B⟩) ⟨by dsimp only;omega,hB⟩ [0,1] ?_
 rintro⟨k,tU,B⟩ hI K1 bM rest
 dsimp only at hI
 refine zD 5<|zJ 12 ((k:Int) <(rs.length:Int)) (fun h4=>?_) fun h4=>?_
 ·
  refine zD 6 ?_
  obtain⟨YJ,ajy⟩:=zG rs k
  refine ij eJ 2 k8 ajy<|jl 0 ((me _ _ ajy).ext (tO bV))<|jn fun b5=>jd 14 [0,0,0,0,0]<|jn fun dL=>zD 4<|ayl [1,1,0,0,1,1,0,0,1,1,0,0] [K1] (fun(zz:Nat×(List Nat)×Cells)=>[(2,zP b2),(3,zP b3),(9,.slice fp rs.length eJ),(10,zI (rs.length:Int)),(11,zI (k:Int)),(25,.slice (some ⟨dL,0,none⟩) 2 2),(26,zI 2),(27,zI (zz.1:Int))]) (fun(zz:Nat×(List Nat)×Cells)=>[.l (mk zz.2.1),.l zz.2.2,.b dL (.cells ⟨[.string YJ.f,.string YJ.t,.string YJ.t,.string YJ.f]⟩ 359 (0,0))]) (fun(zz:Nat×(List Nat)×Cells)=>(zz.2.1.map dS)) (fun(zz:Nat×(List Nat)×Cells)=>zz.1≤2∧Inv (iY w ((pH rs).take (2*k+zz.1))).length zz.2.2) (fun(zz:Nat×(List Nat)×Cells)=>2-zz.1) (⟨0,tU,B⟩) ⟨by dsimp only;omega,hI.2⟩ [2,3,0] ?_
  rintro⟨q,tU,B⟩ hJ K2 mo rest
  dsimp only at hJ
  refine zD 5<|zJ 28 ((q:Int) <2) (fun h5=>?_) fun h5=>?_
  ·
   refine zD 6 ?_
   obtain⟨CQ,zp⟩:=zG ([(YJ.f,YJ.t),(YJ.t,YJ.f)]:List _) q (show q <2 from by omega)
   refine ij (a:=(some ⟨dL,0,none⟩)) (b:=dL) (off:=0) 2 2 (fun _ _=>rfl) zp<|oJ (m:=2) 0 [2] [(dL,.cells ⟨([(YJ.f,YJ.t),(YJ.t,YJ.f)].map eP2).flatten⟩ 359 (0,0))] (fun s _ hZ=>wA (hZ _ (.head _)) (by intro p hp;rfl) zp) ?_
   refine jn fun b7=>jd 3 [0] ?_
   have hpx:=Nt ajy zp
   have hpk:=aio (hR _ (List.mem_of_getElem? ajy)) zp
   refine zD 1<|jl (b:=b2) (off:=0) (m:=1) (vs:=[.string w]) 0 ⟨_,_,_,.inl (bV _ _ g2),rfl⟩<|jd 4 [0,0]<|jc (vs:=[.string w,.string CQ.1,.string CQ.2]) [] (Xf) ?_
   rintro _ _ ⟨alR,alQ,alP,rfl,rfl⟩
   refine jg 0 [.b alR (.cells ⟨[.string w]⟩ 291 (0,0)),.b alQ (.cells ⟨[.string CQ.1]⟩ 9 (0,0)),.b alP (.cells ⟨[.string CQ.2]⟩ 9 (0,0))]<|jf [0,1,2] ((alR,.cells ⟨[.string w]⟩ 291 (0,0))::((alQ,.cells ⟨[.string CQ.1]⟩ 9 (0,0))::[(alP,.cells ⟨[.string CQ.2]⟩ 9 (0,0))])) fun ro8 yh hk7=>zD 2<|jrf [] (aiG (hk7 _ (.head _)) (hk7 _ (.tail _ (.head _))) (hk7 _ (.tail _ (.tail _ (.head _)))) hw hpk.1 ⟨hn,hpk.2⟩) (by rintro _ _ _ _ ⟨_,_,rfl,_⟩;rfl) (fun(zz:Cells)=>[.l zz]) (fun kk=>(fun(zz:Cells)=>Inv ((iY w ((pH rs).take (2*k+q))).length+kk) zz)) (fun jump=>(fun(zz:Cells)=>jump= .ret∧Stop zz)) B (show Inv (_+0) _ from hJ.2) [2] ?_ ?_ ?_
   ·
    rintro bl9 bd9 kk9 vs9 LL9 B ro9 hk9 arD hL hs9
    obtain⟨x9,YS,rfl,rfl⟩:=arD
    have hu:=ahL hpx YS
    refine zD 3<|jbg<|zD 3<|jl (b:=b3) (off:=0) (m:=1) (vs:=[(.func (.yield bl) #[] #[])]) 0 ⟨_,_,_,.inl (hs9 _ _ (yh _ _ (iT _ (.head _)))),rfl⟩<|zD 1<|jyc [1] (hy ((iY w ((pH rs).take (2*k+q))).length+kk9) _ [] B ro9 hu.1 ⟨_,hu.2,rfl,rfl⟩ hL ((bV.trans yh).trans hs9)) (Sub.refl _) ?_
    intro v10 Y3 aM1
    obtain⟨c10,rfl,ar1,arV⟩:=yb aM1
    refine zD 2<|js 41 (!c10) (fun OT=>?_) (fun OT=>?_)
    ·
     try simp only[zB] at OT
     refine zD 2<|jys WQ (Sub.refl _) .ret Y3 ⟨rfl,arV (by simp_all)⟩ [1,0]
    try simp only[zB] at OT
    refine zD 2<|jyn WQ (Sub.refl _) Y3 (ar1 (by simp_all)) [1,0]
   ·
    rintro bd9 B Z9 hL hZ9
    subst hZ9
    refine zD 1<|ja ((q:Int)+1) (by omega)<|zD 2<|jnD mo (⟨q+1,(bd9::tU),B⟩) ⟨by dsimp only;omega,by dsimp only;rw[←Nat.add_assoc,En hpx,List.length_append];exact hL⟩ (by dsimp only;omega) [[0,4],[2],[5]] yh
   rintro bd9 B Z9 jump hS hZ9
   obtain⟨rfl,hS⟩:=hS
   subst hZ9
   exact jrM qm0.a.w.w.a.m (.tuple ⟨[]⟩) [0,4] [] [1] B (bV.trans yh) ⟨[],B,rfl,rfl,.inr hS⟩
  refine zD 3<|ja ((k:Int)+1) (by omega)<|zD 2<|jnD bM (⟨k+1,tU,B⟩) ⟨by dsimp only;omega,by have:=hJ.2;dsimp only;rwa[show 2*(k+1)=2*k+q by omega]⟩ (by dsimp only;omega) [[0],[1]] (Sub.refl _)
 refine zD 2<|jrM qm0.a.w (.tuple ⟨[]⟩) [0] [] [0] B bV ⟨[],B,rfl,rfl,.inl (by have:=hI.2;rwa[show k=rs.length by omega,List.take_of_length_le (by rw[IB];exact Nat.le_refl _)] at this)⟩
instance:LawfulBEq ByteArray where
 eq_of_beq:=fun h=>by rw[LJ] at h;exact of_decide_eq_true h
 rfl:=fun {a}=>by rw[LJ];exact decide_eq_true rfl
def dd(l:List ByteArray):List ByteArray:=l.foldl (fun a x=>if x∈a then a else a++[x]) []
theorem Lj(l:List ByteArray)(x:ByteArray):dd (l++[x])=if x∈dd l then dd l else dd l++[x]:=by rw[dd,List.foldl_append];rfl
theorem as9(a:List ByteArray):∀b:List ByteArray,∃r,dd (a++b)=dd a++r:=by
 intro b
 induction b generalizing a with
 |nil=>exact⟨[],by simp⟩
 |cons x b ih=>
  obtain⟨r,hr⟩:=ih (a++[x])
  rw[show a++x::b=(a++[x])++b by simp,hr,Lj]
  split
  ·exact⟨r,rfl⟩
  exact⟨x::r,by simp⟩
abbrev kvS:ByteArray→Value:=fun a=> .string a
def mF(m:List ByteArray):List (ByteArray×Value):=m.map fun x=>(x,.bool true)
theorem SL(k:ByteArray):∀(m:List ByteArray) (i:Nat),(rH k (mF m) i).map (·.2)=if k∈m then some (.bool true) else none
 | [],_=>rfl
 |x::m,i=>by
  simp only[mF,List.map_cons,rH]
  by_cases h:k=x
  ·simp[h]
  have:=SL k m (i+1)
  simp only[mF] at this
  simp[h,this]
theorem axX{k:ByteArray}{m:List ByteArray}:NU (.bool false) false k (mF m)= .bool (decide (k∈m)):=by
 simp only[NU,lkM,SL]
 by_cases h:k∈m<;>simp[h]
theorem anX{k:ByteArray}{m:List ByteArray}(h:decide (k∈m)=false):lO k (.bool true) (mF m)=mF (m++[k]):=by
 have h:=of_decide_eq_false h
 have:=SL k m 0
 rw[if_neg h] at this
 simp only[lO]
 cases hf:rH k (mF m) 0 with
 |none=>simp[mF]
 |some x=>rw[hf] at this;cases this
theorem afx(hx:l[k]?=some x) (h:decide (x∈dd (l.take k))=true):dd (l.take (k+1))=dd (l.take k):=by
 rw[eY hx,Lj,if_pos (of_decide_eq_true h)]
theorem S0(hx:l[k]?=some x) (h:decide (x∈dd (l.take k))=false):dd (l.take (k+1))=dd (l.take k)++[x]:=by
 rw[eY hx,Lj,if_neg (of_decide_eq_false h)]
theorem ata(hx:l[k]?=some x) (h:decide (x∈dd (l.take k))=false):∃r,dd l=dd (l.take k)++[x]++r:=by
 obtain⟨r,hr⟩:=as9 (l.take (k+1)) (l.drop (k+1))
 rw[List.take_append_drop,S0 hx h] at hr
 exact⟨r,hr⟩
def Mp(rs:List cG)(to:ByteArray):Nat→ByteArray→List ByteArray→List (List ByteArray)
 |0,w,b=>if cH w to=true then [b++[w]] else []
 |n+1,w,b=>(dd (rN w rs)).flatMap fun s=>Mp rs to n s (b++[w])
theorem Lu{to:ByteArray}:∀ {n:Nat} {w:ByteArray} {b x:List ByteArray},x∈Mp rs to n w b→x.length=b.length+n+1
 |0,w,b,x,h=>by
  simp only[Mp] at h
  split at h
  ·rw[List.mem_singleton] at h;subst h;simp
  cases h
 |n+1,w,b,x,h=>by
  simp only[Mp,List.mem_flatMap] at h
  obtain⟨s,_,h2⟩:=h
  have:=Lu h2
  simp at this;omega
theorem ahK{w:ByteArray}(hR:∀r∈rs,qU r)(hw:wV w)(h:x∈rN w rs):wV x∧x.size≤12:=by
 simp only[rN,iY,pH,List.mem_flatMap,Ce,uy,List.mem_filterMap,List.mem_range] at h
 obtain⟨p,⟨r,hr,hp⟩,i,_,hi⟩:=h
 have ht:wV p.2:=by
  simp only[List.mem_cons,List.not_mem_nil,or_false] at hp
  rcases hp with rfl|rfl
  ·exact(hR r hr).tl
  exact(hR r hr).fl
 simp only[pz] at hi
 split at hi
 ·rename_i hc
  cases hi
  exact⟨Ih hw ht,hc.2.2⟩
 cases hi
abbrev akx(L:List (List ByteArray)):(Nat→Option Obj)→Nat→List Value→Cells→Prop:=fun _ k vs LL=>∃x v,L[k]?=some x∧vs=[v]∧az v 1 9 oU x LL
structure ago(ro:Nat→Option Obj)(bl:Nat)(rs:List cG)(to:ByteArray)(many bm bt bu br bg:Nat)(vl:Value):Prop where
 m:ro bm=some (.cells ⟨[zI (many:Int)]⟩ 3 (0,0))
 t:ro bt=some (.cells ⟨[.string to]⟩ 291 (0,0))
 y:ro bu=some (.cells ⟨[.func (.yield bl) #[] #[]]⟩ 325 (0,0))
 r:ro br=some (.cells ⟨[vl]⟩ 34 (0,0))
 g:ro bg=some (.cells ⟨[.func (.func 238) ⟨[]⟩ ⟨[zP bm,zP bt,zP bu,zP br,zP bg]⟩]⟩ 326 (0,0))
 l:bI ro vl 2 jo rs
theorem ago.up{ro aK:Nat→Option Obj}{to:ByteArray}(h:ago ro bl rs to many bm bt bu br bg vl)(hs:Sub ro aK):ago aK bl rs to many bm bt bu br bg vl:=
 ⟨hs _ _ h.m,hs _ _ h.t,hs _ _ h.y,hs _ _ h.r,hs _ _ h.g,h.l.up hs⟩
def anl(bl:Nat)(rs:List cG)(to:ByteArray)(many bm bt bu br bg:Nat)(vl:Value)(L:List (List ByteArray))(Inv:Nat→Cells→Prop)(Stop:Cells→Prop)(n:Nat):Prop:=
 ∀(ro:Nat→Option Obj) (w:ByteArray) (b:List ByteArray) (v:Value) (p:Nat) (B:Cells),ago ro bl rs to many bm bt bu br bg vl→bI ro v 1 oU b→b.length+n=many→wV w→w.size≤100→Part L p (Mp rs to n w b)→Inv p B→YE zT bl ro L.length (akx L) Inv Stop→
  eo zT 238 [.string w,v,zP bm,zP bt,zP bu,zP br,zP bg] ro B (fun r Y=>∃c,r= .bool c∧(c=true→Inv (p+(Mp rs to n w b).length) Y)∧(c=false→Stop Y))
theorem apf{w:ByteArray}{b:List ByteArray}{v:Value}{p:Nat}{B:Cells}{to:ByteArray}{L:List (List ByteArray)}{Inv:Nat→Cells→Prop}{ro:Nat→Option Obj}(ih:∀m,m <n→anl bl rs to many bm bt bu br bg vl L Inv Stop m)(hR:∀r∈rs,qU r)(hq:rs.length≤100)(Vj:many≤100)(OI:ago ro bl rs to many bm bt bu br bg vl)(hb:bI ro v 1 oU b)(hbn:b.length+n=many)(hw:wV w)(rq:w.size≤100)(hP:Part L p (Mp rs to n w b))(hB:Inv p B)(hy:YE zT bl ro L.length (akx L) Inv Stop):eo zT 238 [.string w,v,zP bm,zP bt,zP bu,zP br,zP bg] ro B (fun r Y=>∃c,r= .bool c∧(c=true→Inv (p+(Mp rs to n w b).length) Y)∧(c=false→Stop Y)):=by
 obtain⟨gm,gt,gy,gl,gg,hl⟩:=id OI
 obtain⟨fp,rh,q9,eJ,rfl,tq,k8,me⟩:=hl
 obtain⟨awW,aKW,aKS,awV,rfl,aKU,aKV,aKT⟩:=hb
 refine ajk au [.l B] [] bn<|zD 2<|jn fun b9=>zD 4<|jc (vs:=[.slice awW b.length awV]) [] (aol (show bI _ _ _ _ _ from ⟨awW,aKW,aKS,awV,rfl,aKU,aKV,aKT⟩) (by first|omega| (simp only[List.length_set,List.length_append,List.length_cons,List.length_nil];omega))) ?_
 rintro v14 L14 ⟨_,FQ,rfl⟩
 refine zD 1<|jn fun b16=>ku (sz:=1) (ps:=b) (qs:=[w]) (enc:=oU) (w:= .slice (some ⟨b16,0,none⟩) 1 1) [1] [0] [(b16,.cells ⟨([w].map oU).flatten⟩ 9 (0,0))] (FQ) (fun s _ hZ=>bX [w] (hZ _ (.head _)) (by intro p hp;rfl)) (fun p _=>an rfl) (by simp only[List.length_cons,List.length_nil];omega) (fun v17 L17 R3=>?_)
 obtain⟨yX,yV,OG⟩:=R3.form
 subst OG
 refine jn fun rI=>jd 7 [0,0]<|jl (b:=bm) (off:=0) (m:=1) (vs:=[zI (many:Int)]) 0 ⟨_,_,_,.inl gm,rfl⟩<|zD 2<|zJ 21 (((b++[w]).length:Int)>(many:Int)) (fun h1=>?_) fun h1=>?_
 ·
  refine zD 2 ?_
  obtain rfl:n=0:=by simp only[List.length_append,List.length_cons,List.length_nil] at*;omega
  refine zD 2<|jl (b:=bt) (off:=0) (m:=1) (vs:=[.string to]) 0 ⟨_,_,_,.inl gt,rfl⟩<|zD 2<|js 25 (!(cH w to)) (fun h2=>?_) (fun h2=>?_)
  ·
   have kF:=h2
   try simp only[zB] at kF
   refine jd 7 [3]<|jrM qm0 (.bool true) [] [3] [4] B (Sub.refl _) ⟨_,rfl,(fun _=>by rw[show Mp rs to 0 w b=[] from if_neg (by simp_all)];exact hB),nofun⟩
  have kF:=h2
  try simp only[zB] at kF
  have adD:Mp rs to 0 w b=[b++[w]]:=if_pos (by simp_all)
  have YV:=Part.get (i:=0) (x:=b++[w]) hP (by rw[adD];rfl)
  refine jl (b:=bu) (off:=0) (m:=1) (vs:=[(.func (.yield bl) #[] #[])]) 0 ⟨_,_,_,.inl gy,rfl⟩<|jd 1 [0]<|jyc [1,4] (hy p [(.slice yX ((b++[w])).length yV)] L17 B ro YV.1 ⟨_,_,YV.2,rfl,R3⟩ hB (Sub.refl _)) (Sub.refl _) ?_
  intro v28 Y28 aMZ
  obtain⟨c28,rfl,aPE,aPr⟩:=yb aMZ
  refine jd 4 [3]<|jrM qm0 (.bool c28) [] [3] [0] Y28 (Sub.refl _) ⟨_,rfl,(fun h=>by rw[adD];exact aPE h),aPr⟩
 refine zD 3 ?_
 obtain⟨m,rfl⟩:∃m,n=m+1:=⟨n-1,by simp only[List.length_append,List.length_cons,List.length_nil] at*;omega⟩
 refine zD 1<|jmk kvS fun r30 L30 azw=>jn fun Mq=>jd 5 [0]<|jf [2,0,3] ((rI,.cells ⟨[(.slice yX ((b++[w])).length yV)]⟩ 127 (0,0))::((Mq,.cells ⟨[(.map (some r30))]⟩ 328 (0,0))::L17)) (fun ro5 G4 hk4=>?_)
 have uM:=R3.ma hk4.tail.tail
 replace OI:=OI.up G4
 replace hy:=hy.up G4
 refine zD 1<|jl (b:=br) (off:=0) (m:=1) (vs:=[.slice fp rs.length eJ]) 0 ⟨_,_,_,.inl (G4 _ _ gl),rfl⟩<|jc (vs:=[.string w,.slice fp rs.length eJ]) [] (apd ((show bI _ _ _ _ _ from ⟨fp,rh,q9,eJ,rfl,tq,k8,me⟩).up G4)) ?_
 rintro _ _ ⟨alT,alS,rfl,rfl⟩
 refine jg 0 [.b alT (.cells ⟨[.string w]⟩ 291 (0,0)),.b alS (.cells ⟨[.slice fp rs.length eJ]⟩ 34 (0,0))]<|jf [0,1] ((alT,.cells ⟨[.string w]⟩ 291 (0,0))::[(alS,.cells ⟨[.slice fp rs.length eJ]⟩ 34 (0,0))]) fun ro8 yh hk7=>zD 2<|jrf [] (aiF (hk7 _ (.tail _ (.head _))) (OI.l.up yh) hR (hk7 _ (.head _)) hw rq hq) (by rintro _ _ _ _ ⟨_,_,rfl,_⟩;rfl) (fun(zz:Bool×Cells×Cells)=>[.b b9 (.cells ⟨[.bool zz.1]⟩ 4 (0,0)),.l zz.2.1,.l zz.2.2]) (fun kk=>(fun(zz:Bool×Cells×Cells)=>Inv (p+((dd ((rN w rs).take kk)).flatMap fun s=>Mp rs to m s (b++[w])).length) zz.2.2∧jH r30 kvS (mF (dd ((rN w rs).take kk))) zz.2.1)) (fun jump=>(fun(zz:Bool×Cells×Cells)=>jump= .ret∧(zz.1=false∧Stop zz.2.2))) (⟨false,L30,B⟩) ⟨hB,azw⟩ [2,0,3] ?_ ?_ ?_
 ·
  rintro bl9 bd9 kk9 vs9 LL9 ⟨rv,Lm,B⟩ ro9 hk9 arD hL hs9
  obtain⟨x9,YS,rfl,rfl⟩:=arD
  have hue:=ahK hR hw (List.mem_of_getElem? YS)
  refine zD 3<|jbg<|zD 4<|jl (b:=Mq) (off:=0) (m:=1) (vs:=[(.map (some r30))]) 0 ⟨_,_,_,.inl (hs9 _ _ (yh _ _ (hk4 _ (.tail _ (.head _))))),rfl⟩<|zD 1<|jlu (kv:=kvS) (F:=(mF (dd ((rN w rs).take kk9)))) (r:=r30) (K:=291) x9 (.bool false) false [2] Lm (UR (T:=291) (by kernel_rfl)) (fun s _ hZ=>hL.2.has hZ)<|jw 37 (.bool (decide (x9∈(dd ((rN w rs).take kk9))))) axX<|zD 1<|js 37 (decide (x9∈(dd ((rN w rs).take kk9)))) (fun Qb=>?_) (fun Qb=>?_)
  ·
   refine zD 2<|jyn WQ (Sub.refl _) ⟨rv,Lm,B⟩ ⟨by rw[afx YS (by assumption)];exact hL.1,by rw[afx YS (by assumption)];exact hL.2⟩ [0,1,2,3]
  have sw:decide (x9∈dd ((rN w rs).take kk9))=false:=by assumption
  obtain⟨rr,hrr⟩:=ata YS sw
  have ay5:=Part.flat (G:=fun s=>Mp rs to m s (b++[w])) hP hrr
  refine zD 4<|jl (b:=Mq) (off:=0) (m:=1) (vs:=[(.map (some r30))]) 0 ⟨_,_,_,.inl (hs9 _ _ (yh _ _ (hk4 _ (.tail _ (.head _))))),rfl⟩<|zD 1<|jmu (kv:=kvS) (F:=(mF (dd ((rN w rs).take kk9)))) (r:=r30) (K:=291) 2 x9 (.bool true) (UR (T:=291) (by kernel_rfl)) hL.2 fun aEQ adp=>zD 3<|jl (b:=bg) (off:=0) (m:=1) (vs:=[.func (.func 238) ⟨[]⟩ ⟨[zP bm,zP bt,zP bu,zP br,zP bg]⟩]) 0 ⟨_,_,_,.inl (hs9 _ _ (yh _ _ (G4 _ _ gg))),rfl⟩<|zD 1<|jl (b:=rI) (off:=0) (m:=1) (vs:=[(.slice yX ((b++[w])).length yV)]) 0 ⟨_,_,_,.inl (hs9 _ _ (yh _ _ (hk4 _ (.head _)))),rfl⟩<|jc (vs:=[.string x9,(.slice yX ((b++[w])).length yV),zP bm,zP bt,zP bu,zP br,zP bg]) [3] (ih m (by omega) _ _ _ _ (p+((dd ((rN w rs).take kk9)).flatMap fun s=>Mp rs to m s (b++[w])).length) _ (OI.up (yh.trans hs9)) (uM.up (yh.trans hs9)) (by simp only[List.length_append,List.length_cons,List.length_nil];omega) hue.1 (by omega) ay5 hL.1 (hy.up (yh.trans hs9))) ?_
  rintro _ Y43 ⟨c43,rfl,aPB,aPo⟩
  refine zD 2<|js 44 (!c43) (fun Cu=>?_) (fun Cu=>?_)
  ·
   try simp only[zB] at Cu
   refine jd 6 [3]<|jys WQ (Sub.refl _) .ret ⟨false,aEQ,Y43⟩ ⟨rfl,rfl,aPo (by simp_all)⟩ [2,3,1,0]
  try simp only[zB] at Cu
  refine zD 2<|jyn WQ (Sub.refl _) ⟨rv,aEQ,Y43⟩ ⟨by rw[S0 YS sw,List.flatMap_append,List.length_append,←Nat.add_assoc];have:=aPB (by simp_all);simpa using this,by rw[S0 YS sw,←anX sw];exact adp⟩ [2,3,1,0]
 ·
  rintro bd9 ⟨rv,Lm,B⟩ Z9 hL hZ9
  subst hZ9
  refine jd 5 [2]<|jrM qm0.a.a.m (.bool true) [0] [1] [3] B (G4.trans yh) ⟨_,rfl,(fun _=>by have:=hL.1;rwa[List.take_of_length_le (Nat.le_refl _)] at this),nofun⟩
 rintro bd9 ⟨rv,Lm,B⟩ Z9 jump hS hZ9
 obtain⟨rfl,hS⟩:=hS
 obtain⟨rfl,hS⟩:=hS
 subst hZ9
 exact jrM qm0.a.a.m (.bool false) [0] [1] [3] B (G4.trans yh) ⟨_,rfl,nofun,fun _=>hS⟩
theorem axQ{to:ByteArray}{L:List (List ByteArray)}{Inv:Nat→Cells→Prop}(hR:∀r∈rs,qU r)(hq:rs.length≤100)(Vj:many≤100):∀n,anl bl rs to many bm bt bu br bg vl L Inv Stop n:=by
 intro n
 induction n using Nat.strongRecOn with
 |_ n ih=>exact fun ro w b v p B hc hb hbn hw rq hP hB hy=>apf ih hR hq Vj hc hb hbn hw rq hP hB hy
theorem Xg{w to:ByteArray}{ro:Nat→Option Obj}(g1:ro b1=some (.cells ⟨[zI (many:Int)]⟩ 3 (0,0)))(g2:ro b2=some (.cells ⟨[.string to]⟩ 291 (0,0)))(g3:ro b3=some (.cells ⟨[vl]⟩ 34 (0,0)))(g4:ro b4=some (.cells ⟨[.string w]⟩ 291 (0,0)))(hl:bI ro vl 2 jo rs)(hR:∀r∈rs,qU r)(hw:wV w)(rq:w.size≤100)(hq:rs.length≤100)(Vj:many≤100):ItX zT 237 [] [zP b1,zP b2,zP b3,zP b4] ro [] (Mp rs to many w []).length (akx (Mp rs to many w [])) (fun Z=>Z=[]):=by
 intro bl aA Inv Stop hs hy B hB
 replace g1:=hs _ _ g1
 replace g2:=hs _ _ g2
 replace g3:=hs _ _ g3
 replace g4:=hs _ _ g4
 replace hl:=hl.up hs
 have hlr:=hl
 obtain⟨fp,rh,q9,eJ,rfl,tq,k8,me⟩:=hl
 refine bA au [.l B] [] bn<|zD 2<|jn fun b5=>zD 3<|jn fun b6=>jd 8 [0,0]<|jl (b:=b4) (off:=0) (m:=1) (vs:=[.string w]) 0 ⟨_,_,_,.inl g4,rfl⟩<|jf [1,0] ((b5,.cells ⟨[(.func (.yield bl) #[] #[])]⟩ 325 (0,0))::[(b6,.cells ⟨[.func (.func 238) ⟨[]⟩ ⟨[zP b1,zP b2,zP b5,zP b3,zP b6]⟩]⟩ 326 (0,0))]) fun AI bV iT=>jc (vs:=[.string w,zS,zP b1,zP b2,zP b5,zP b3,zP b6]) [0] (axQ hR hq Vj many _ _ _ _ 0 _ ⟨bV _ _ g1,bV _ _ g2,iT _ (.head _),bV _ _ g3,iT _ (.tail _ (.head _)),hlr.up bV⟩ (bI.nil _ _ _ _ _) (by simp) hw rq ⟨[],[],by simp,rfl⟩ hB (YE.up hy bV)) ?_
 rintro _ Y3 ⟨c10,rfl,ar1,arV⟩
 refine zD 1<|aE q0.a (.tuple ⟨[]⟩) [] [0] Y3 bV ⟨_,_,rfl,rfl,[],Y3,rfl,rfl,by cases c10 with|true=>exact .inl (by simpa using ar1 rfl)|false=>exact .inr (arV rfl)⟩
theorem abn{w to:ByteArray}{many:Int}{ro:Nat→Option Obj}(hl:bI ro vl 2 jo rs):eo zT 219 [.string w,vl,.string to,zI many] ro [] (fun r Y=>∃b4 b5 b6 b7,r= .func (.func 237) ⟨[]⟩ ⟨[zP b7,zP b6,zP b5,zP b4]⟩∧Y=[(b4,.cells ⟨[.string w]⟩ 291 (0,0)),(b5,.cells ⟨[vl]⟩ 34 (0,0)),(b6,.cells ⟨[.string to]⟩ 291 (0,0)),(b7,.cells ⟨[zI many]⟩ 3 (0,0))]):=by
 obtain⟨fp,rh,q9,eJ,rfl,tq,k8,me⟩:=hl
 refine bA au [] [] bn<|zD 2<|jn fun b4=>jn fun b5=>jn fun b6=>jn fun b7=>zD 8<|aE q0 (.func (.func 237) ⟨[]⟩ ⟨[zP b7,zP b6,zP b5,zP b4]⟩) [] [3,2,1,0] ((b4,.cells ⟨[.string w]⟩ 291 (0,0))::((b5,.cells ⟨[.slice fp rs.length eJ]⟩ 34 (0,0))::((b6,.cells ⟨[.string to]⟩ 291 (0,0))::[(b7,.cells ⟨[zI many]⟩ 3 (0,0))]))) (Sub.refl _) ⟨_,_,rfl,rfl,_,_,_,_,rfl,rfl⟩
theorem apg{L:List (List ByteArray)}{ro:Nat→Option Obj}(hit:ItX zT 237 [] [zP b1,zP b2,zP b3,zP b4] ro [] L.length (akx L) (fun Z=>Z=[]))(hL:∀x∈L,x.length≤1000):eo zT 218 [.func (.func 237) ⟨[]⟩ ⟨[zP b1,zP b2,zP b3,zP b4]⟩,.func (.func 220) ⟨[]⟩ ⟨[]⟩] ro [] (fun r Y=>∃v,r= .tuple ⟨[v,.bool (decide (0 <L.length))]⟩∧∃ps,az v 1 9 oU ps Y∧(0 <L.length→ps∈L)):=by
 refine ajk au [] [] bn<|zD 2<|jn fun b3=>zD 2<|jf [0] [(b3,.cells ⟨[.func (.func 220) ⟨[]⟩ ⟨[]⟩]⟩ 317 (0,0))] fun AI bV iT=>zD 3<|jn fun b6=>zD 3<|jn fun b7=>jd 8 [0]<|pQ<|jrf [] (hit.up bV) (by rintro _ _ _ _ ⟨_,_,_,rfl,_⟩;rfl) (fun(zz:Value×(List ByteArray)×Cells×Bool)=>[.b b6 (.cells ⟨[zz.1]⟩ 127 (0,0)),.b b7 (.cells ⟨[.bool zz.2.2.2]⟩ 4 (0,0)),.l zz.2.2.1]) (fun kk=>(fun(zz:Value×(List ByteArray)×Cells×Bool)=>az zz.1 1 9 oU zz.2.1 zz.2.2.1∧zz.2.2.2=decide (0 <kk)∧(0 <kk→zz.2.1∈L)∧zz.2.1.length≤1000)) (fun jump=>(fun(zz:Value×(List ByteArray)×Cells×Bool)=>False)) (⟨zS,[],[],false⟩) ⟨az.nil _ _ _,rfl,nofun,by simp⟩ [2,1,0] ?_ ?_ ?_
 ·
  rintro bl4 bd4 kk4 vs4 LL4 ⟨v,ps,Lb,sm⟩ ro4 hk4 arE hI kD
  obtain⟨x4,v4,hx4,rfl,ho4⟩:=arE
  have hxl:=hL _ (List.mem_of_getElem? hx4)
  have PY:=hI.2.2.2
  refine zD 3<|jbg<|jd 6 [2]<|js 13 (!sm) (fun h5=>?_) (fun h5=>?_)
  ·
   have Dq:=h5
   try simp only[zB] at Dq
   refine zD 10 ?_
   obtain⟨va6,vc6,he6⟩:=ho4.form
   subst he6
   refine jd 3 [1,2]<|jyn WQ (Sub.refl _) ⟨(.slice va6 (x4).length vc6),x4,LL4,true⟩ ⟨ho4,rfl,fun _=>List.mem_of_getElem? hx4,hxl⟩ [0,1,2,4]
  have Dq:=h5
  try simp only[zB] at Dq
  refine jl (b:=b3) (off:=0) (m:=1) (vs:=[.func (.func 220) ⟨[]⟩ ⟨[]⟩]) 0 ⟨_,_,_,.inl (kD _ _ (iT _ (.head _))),rfl⟩<|jd 2 [1]<|jp (vs:=[v4,v]) [4,3] (LL4++Lb) (fun aA hs hZ=>aKE (ho4.ma hZ.left) (hI.1.ma hZ.right) (by first|omega| (simp only[List.length_set,List.length_append,List.length_cons,List.length_nil];omega)) (by first|omega| (simp only[List.length_set,List.length_append,List.length_cons,List.length_nil];omega))) ?_
  refine zD 3<|zJ 19 ((Ln x4 ps) <0) (fun h7=>?_) fun h7=>?_
  ·
   refine zD 3 ?_
   obtain⟨va8,vc8,he8⟩:=ho4.form
   subst he8
   refine jd 3 [1,2]<|jyn WQ (Sub.refl _) ⟨(.slice va8 (x4).length vc8),x4,LL4,true⟩ ⟨ho4,rfl,fun _=>List.mem_of_getElem? hx4,hxl⟩ [0,1,2,4]
  refine zD 2<|jyn WQ (Sub.refl _) ⟨v,ps,Lb,sm⟩ ⟨hI.1,by have:=hI.2.1;simp_all,fun _=>hI.2.2.1 (by have:=hI.2.1;simp_all),PY⟩ [0,1,2,3]
 ·
  rintro bd4 ⟨v,ps,Lb,sm⟩ Z4 hI hZ4
  subst hZ4
  refine jd 8 [2,3]<|jrM qm0.a.m (.tuple ⟨[v,.bool sm]⟩) [0] [] [3] Lb bV ⟨v,by rw[←hI.2.1],ps,hI.1,hI.2.2.1⟩
 rintro bd4 ⟨v,ps,Lb,sm⟩ Z4 jump hS hZ4
 exact hS.elim
abbrev eBy(x:Int):List Value:=[.int .u8 x]
theorem aDQ:EF zT 286 (Extern.BytealgMakeNoZero.makeNoZero #[3] #[347]):=⟨Tryz.f286,Tryz.func286,by kernel_rfl,by kernel_rfl,by kernel_rfl,by kernel_rfl⟩
def an3:=(mI Tryz.typeInfo347 Tryz.underlying347 rfl rfl rfl rfl rfl rfl:TF zT 347 _ 1 24 _ false)
theorem aaV{l:List Value}{T:TypeId}:az (.slice (some ⟨b,0,none⟩) 0 l.length) 1 T eBy ([]:List Int) [(b,.cells ⟨l⟩ T (0,0))]:= .inr ⟨b,l,l.length,rfl,rfl,by simp,by simp,by simp,by simp⟩
theorem aiq{v:Value}{T:TypeId}{c:Int}{L:Cells}(h:az v 1 T eBy [c] L):∃b l cap,cap≠0∧v= .slice (some ⟨b,0,none⟩) 1 cap∧L=[(b,.cells ⟨.int .u8 c::l⟩ T (0,0))]:=by
 rcases h with ⟨_,h,_⟩| ⟨b,l,cap,h1,h2,h3,h4,_,h6⟩
 ·cases h
 simp only[List.length_cons,List.length_nil] at h1 h4 h6
 cases l with
 |nil=>simp at h3;omega
 |cons x l=>
  simp at h6;subst h6
  exact⟨b,l,cap,by omega,h1,h2⟩
def Yj(n:Int):ByteArray:=⟨#[n.toNat.toUInt8]⟩
theorem aDR:EF zT 285 Extern.AbiNoEscape.same:=⟨Tryz.f285,Tryz.func285,by kernel_rfl,by kernel_rfl,by kernel_rfl,by kernel_rfl⟩
theorem aEg{v:Value}{ro:Nat→Option Obj}:eo zT 274 [zP b] ro [(b,.cells ⟨[.pointer none,v]⟩ 349 (0,0))] (fun r Y=>Y=[(b,.cells ⟨[zP b,v]⟩ 349 (0,0))]):=by
 refine bA au [.b b (.cells ⟨[.pointer none,v]⟩ 349 (0,0))] [] bn<|jd 12 [0]<|jmo [0] [0,0] [(b,.cells ⟨[.pointer none,v]⟩ 349 (0,0))] (zP b)<|jg 0 [.b b (.cells ⟨[.pointer none,v]⟩ 349 (0,0))]<|aMu (v:= zP b) aDR<|jmo [0] [0,0] [(b,.cells ⟨[.pointer none,v]⟩ 349 (0,0))] (zP b)<|jg 0 [.b b (.cells ⟨[.pointer none,v]⟩ 349 (0,0))]<|jd 4 [0]<|aE q0 (.tuple ⟨[]⟩) [] [0] [(b,.cells ⟨[zP b,v]⟩ 349 (0,0))] (Sub.refl _) ⟨_,_,rfl,rfl,rfl⟩
theorem aEf{v:Value}{ro:Nat→Option Obj}:eo zT 274 [zP b] ro [(b,.cells ⟨[zP b,v]⟩ 349 (0,0))] (fun r Y=>Y=[(b,.cells ⟨[zP b,v]⟩ 349 (0,0))]):=by
 refine bA au [.b b (.cells ⟨[zP b,v]⟩ 349 (0,0))] [] bn<|jd 16 [0,0]<|jpn (b:=b)<|jg 0 []<|zD 3<|aE q0 (.tuple ⟨[]⟩) [] [0] [(b,.cells ⟨[zP b,v]⟩ 349 (0,0))] (Sub.refl _) ⟨_,_,rfl,rfl,rfl⟩
theorem aD9{ro:Nat→Option Obj}:eo zT 275 [zP b,zI 1] ro [(b,.cells ⟨[zP b,zS]⟩ 349 (0,0))] (fun r Y=>∃v L,az v 1 5 eBy ([]:List Int) L∧Y=(b,.cells ⟨[zP b,v]⟩ 349 (0,0))::L):=by
 refine bA au [.b b (.cells ⟨[zP b,zS]⟩ 349 (0,0))] [] bn<|jd 6 [0]<|jcp (c:=0)<|jd 8 [0]<|aN 8 fun CN CZ AQ=>jnz (n:=1) aDQ rfl an3 (by omega) fun bb lz hlz=>jg 0 [.b bb (.cells ⟨lz⟩ 5 (0,0))]<|bC AQ [1]<|js0 (a:=⟨bb,0,none⟩) (l:=1) (c:=lz.length)<|jd 9 [1]<|jmo [] [] [] (zI 0)<|jg 0 []<|jd 8 [1]<|aE q0 (.tuple ⟨[]⟩) [] [1,0] ((b,.cells ⟨[zP b,(.slice (some ⟨bb,0,none⟩) 0 lz.length)]⟩ 349 (0,0))::[(bb,.cells ⟨lz⟩ 5 (0,0))]) (Sub.refl _) ⟨_,_,rfl,rfl,_,_,aaV,rfl⟩
theorem aEe{ro:Nat→Option Obj}:eo zT 257 [zP b,zI 1] ro [(b,.cells ⟨[.pointer none,zS]⟩ 349 (0,0))] (fun r Y=>∃v L,az v 1 5 eBy ([]:List Int) L∧Y=(b,.cells ⟨[zP b,v]⟩ 349 (0,0))::L):=by
 refine bA au [.b b (.cells ⟨[.pointer none,zS]⟩ 349 (0,0))] [] bn<|zD 3<|jc (vs:=[zP b]) [0] (aEg (v:= zS)) ?_
 rintro _ _ rfl
 refine jg 0 [.b b (.cells ⟨[zP b,zS]⟩ 349 (0,0))]<|jd 15 [0]<|jcp (c:=0)<|jd 13 [0]<|jc (vs:=[zP b,zI 1]) [0] (aD9) ?_
 rintro _ _ ⟨v,L,hv,rfl⟩
 refine jg 0 [.b b (.cells ⟨[zP b,v]⟩ 349 (0,0)),.l L]<|zD 1<|aE q0 (.tuple ⟨[]⟩) [] [0,1] ((b,.cells ⟨[zP b,v]⟩ 349 (0,0))::L) (Sub.refl _) ⟨_,_,rfl,rfl,v,L,hv,rfl⟩
theorem aEh{v:Value}{L:Cells}{c:Int}{ro:Nat→Option Obj}(ho:az v 1 5 eBy ([]:List Int) L):eo zT 259 [zP b,.int .u8 c] ro ((b,.cells ⟨[zP b,v]⟩ 349 (0,0))::L) (fun r Y=>∃v' L',az v' 1 5 eBy [c] L'∧Y=(b,.cells ⟨[zP b,v']⟩ 349 (0,0))::L'):=by
 refine bA au [.b b (.cells ⟨[zP b,v]⟩ 349 (0,0)),.l L] [] bn<|zD 7<|jc (vs:=[zP b]) [0] (aEf (v:=v)) ?_
 rintro _ _ rfl
 refine jg 0 [.b b (.cells ⟨[zP b,v]⟩ 349 (0,0))]<|jd 9 [0]<|jn fun yP=>ku (sz:=1) (ps:=[]) (qs:=[c]) (enc:=eBy) (w:= .slice (some ⟨yP,0,none⟩) 1 1) [2] [0] [(yP,.cells ⟨([c].map eBy).flatten⟩ 5 (0,0))] (ho) (fun s _ hZ=>bX [c] (hZ _ (.head _)) (by intro p hp;rfl)) (fun p _=>an rfl) (by simp) (fun v14 L14 tL=>?_)
 rw[List.nil_append] at tL
 obtain⟨Jz,Hn,xp⟩:=tL.form
 subst xp
 refine jd 9 [2]<|aE q0 (.nilIface) [] [2,0] ((b,.cells ⟨[zP b,(.slice Jz ([c]).length Hn)]⟩ 349 (0,0))::L14) (Sub.refl _) ⟨_,_,rfl,rfl,_,_,tL,rfl⟩
theorem aSl{bb cap:Nat}{l:List Value}{c:Int}{ro:Nat→Option Obj}(nV:cap≠0):eo zT 260 [zP b] ro [(b,.cells ⟨[zP b,.slice (some ⟨bb,0,none⟩) 1 cap]⟩ 349 (0,0)),(bb,.cells ⟨.int .u8 c::l⟩ 5 (0,0))] (fun r Y=>r= .string (Yj c)):=by
 refine bA au [.b b (.cells ⟨[zP b,.slice (some ⟨bb,0,none⟩) 1 cap]⟩ 349 (0,0)),.b bb (.cells ⟨.int .u8 c::l⟩ 5 (0,0))] [] bn<|jd 15 [0,0]<|aN 4 fun CN CZ AQ=>jsd (a:=⟨bb,0,none⟩) (l:=1) nV<|jg 0 []<|bC AQ [0,1]<|aN 10 fun CM CY BG=>jus (b:=bb) (E:=5) [1] c l fun L9=>iS BG [[1]]<|zD 3<|aE q0 (.string (Yj c)) [] [] [] (Sub.refl _) ⟨_,_,rfl,rfl,rfl⟩
def tA(u:UInt8):ByteArray:=⟨#[u]⟩
theorem akv{u:UInt8}(h:u.toNat <128):Value.string (Utf8.encode (u.toNat:Int))= .string (tA u):=by
 have hv:Utf8.valid (u.toNat:Int)=true:=by simp only[Utf8.valid];simp;omega
 simp only[Utf8.encode,hv,if_true,Int.toNat_natCast,if_pos (show u.toNat <0x80 from h),tA]
 simp
theorem aDu{u:UInt8}{ro:Nat→Option Obj}(hu:(97≤u.toNat∧u.toNat≤122)):dz zT 236 [.string (tA u)] ro (.string (tA u)):=by
 have uz:(tA u).size=1:=rfl
 refine bA au [] [] bn<|zD 15<|ez [1,1,0,1,0,0] [] (fun(zz:Nat×Bool)=>[(0,.string (tA u)),(2,.string (bs [])),(3,.bool true),(4,.bool zz.2),(5,zI (zz.1:Int))]) (fun(zz:Nat×Bool)=>[]) (fun(zz:Nat×Bool)=>(zz.1=0∧zz.2=false)∨(zz.1=1∧zz.2=false)) (fun(zz:Nat×Bool)=>1-zz.1) (⟨0,false⟩) (.inl ⟨rfl,rfl⟩) [] ?_
 rintro⟨i,q⟩ hI K1 bM rest
 dsimp only at hI
 refine zD 8<|zJ 14 ((i:Int) <((tA u).size:Int)) (fun h1=>?_) fun h1=>?_
 ·
  refine zD 5 ?_
  obtain⟨hi0,Va⟩:i=0∧q=false:=by rcases hI with h|h;exact h;omega
  refine jw 5 (zI 0) (show Value.int .i64 (i:Int)= zI 0 by rw[hi0];rfl) ?_
  refine jw 4 (.bool false) (show Value.bool q= .bool false by rw[Va])<|zD 12<|zJ 21 ((u.toNat:Int)≥128) (fun h2=>?_) fun h2=>?_
  ·
   exfalso;omega
  refine zD 8<|js 26 (decide (65≤(u.toNat:Int))) (fun h3=>?_) (fun h3=>?_)
  ·
   have sC:=h3
   replace sC:=of_decide_eq_true sC
   refine zD 11<|bO bM (⟨1,decide ((u.toNat:Int)≤90)⟩) (.inr ⟨rfl,decide_eq_false (by omega)⟩) (by dsimp only;omega) [] (Sub.refl _)
  have sC:=h3
  replace sC:=of_decide_eq_false sC
  exfalso;omega
 refine zD 4 ?_
 obtain⟨hi1,hq1⟩:i=1∧q=false:=by rcases hI with h|h;omega;exact h
 refine jw 4 (.bool false) (show Value.bool q= .bool false by rw[hq1])<|zD 17<|aE q0 (.string (tA u)) [] [] [] (Sub.refl _) ⟨_,_,rfl,rfl,rfl,rfl⟩
theorem aDt{u:UInt8}{ro:Nat→Option Obj}(hu:(65≤u.toNat∧u.toNat≤90)):dz zT 236 [.string (tA u)] ro (.string (Yj (IntKind.u8.wrap ((u.toNat:Int)+32)))):=by
 have uz:(tA u).size=1:=rfl
 refine bA au [] [] bn<|zD 15<|ez [1,1,0,1,0,0] [] (fun(zz:Nat×Bool)=>[(0,.string (tA u)),(2,.string (bs [])),(3,.bool true),(4,.bool zz.2),(5,zI (zz.1:Int))]) (fun(zz:Nat×Bool)=>[]) (fun(zz:Nat×Bool)=>(zz.1=0∧zz.2=false)∨(zz.1=1∧zz.2=true)) (fun(zz:Nat×Bool)=>1-zz.1) (⟨0,false⟩) (.inl ⟨rfl,rfl⟩) [] ?_
 rintro⟨i,q⟩ hI K1 bM rest
 dsimp only at hI
 refine zD 8<|zJ 14 ((i:Int) <((tA u).size:Int)) (fun h1=>?_) fun h1=>?_
 ·
  refine zD 5 ?_
  obtain⟨hi0,Va⟩:i=0∧q=false:=by rcases hI with h|h;exact h;omega
  refine jw 5 (zI 0) (show Value.int .i64 (i:Int)= zI 0 by rw[hi0];rfl) ?_
  refine jw 4 (.bool false) (show Value.bool q= .bool false by rw[Va])<|zD 12<|zJ 21 ((u.toNat:Int)≥128) (fun h2=>?_) fun h2=>?_
  ·
   exfalso;omega
  refine zD 8<|js 26 (decide (65≤(u.toNat:Int))) (fun h3=>?_) (fun h3=>?_)
  ·
   have sC:=h3
   replace sC:=of_decide_eq_true sC
   refine zD 11<|bO bM (⟨1,decide ((u.toNat:Int)≤90)⟩) (.inr ⟨rfl,decide_eq_true (by omega)⟩) (by dsimp only;omega) [] (Sub.refl _)
  have sC:=h3
  replace sC:=of_decide_eq_false sC
  exfalso;omega
 refine zD 4 ?_
 obtain⟨hi1,hq1⟩:i=1∧q=true:=by rcases hI with h|h;omega;exact h
 refine jw 4 (.bool true) (show Value.bool q= .bool true by rw[hq1])<|zD 14<|jn fun b7=>zD 9<|jc (vs:=[zP b7,zI 1]) [0] (aEe) ?_
 rintro _ _ ⟨v,L,hv,rfl⟩
 refine jg 0 [.b b7 (.cells ⟨[zP b7,v]⟩ 349 (0,0)),.l L]<|zD 7<|ez [1,1,1,0,1,0,1,1,1,1,0,1,0,0] [] (fun(zz:Nat×Int×Value×Cells×(List Int))=>[(0,.string (tA u)),(2,.string (bs [])),(7,zP b7),(8,zI zz.2.1),(9,zI (zz.1:Int))]) (fun(zz:Nat×Int×Value×Cells×(List Int))=>[.b b7 (.cells ⟨[zP b7,zz.2.2.1]⟩ 349 (0,0)),.l zz.2.2.2.1]) (fun(zz:Nat×Int×Value×Cells×(List Int))=>az zz.2.2.1 1 5 eBy zz.2.2.2.2 zz.2.2.2.1∧((zz.1=0∧zz.2.1=0∧zz.2.2.2.2=[])∨(zz.1=1∧zz.2.1=1∧zz.2.2.2.2=[(IntKind.u8.wrap ((u.toNat:Int)+32))]))) (fun(zz:Nat×Int×Value×Cells×(List Int))=>1-zz.1) (⟨0,0,v,L,[]⟩) ⟨hv,.inl ⟨rfl,rfl,rfl⟩⟩ [0,1] ?_
 rintro⟨j,p,v,L,xs⟩ hJ K2 mo rest
 dsimp only at hJ
 refine zD 8<|zJ 41 ((j:Int) <((tA u).size:Int)) (fun h4=>?_) fun h4=>?_
 ·
  refine zD 5 ?_
  obtain⟨hj0,hp0,FE⟩:j=0∧p=0∧xs=[]:=by rcases hJ.2 with h|h;exact h;omega
  refine jw 9 (zI 0) (show Value.int .i64 (j:Int)= zI 0 by rw[hj0];rfl) ?_
  refine jw 8 (zI 0) (show Value.int .i64 p= zI 0 by rw[hp0])<|zD 11<|js 49 (decide (65≤(u.toNat:Int))) (fun h5=>?_) (fun h5=>?_)
  ·
   have Dq:=h5
   replace Dq:=of_decide_eq_true Dq
   refine zD 4<|zJ 52 ((u.toNat:Int)≤90) (fun h6=>?_) fun h6=>?_
   ·
    refine zD 19<|jc (vs:=[zP b7,.int .u8 (IntKind.u8.wrap ((u.toNat:Int)+32))]) [0,1] (aEh (by have:=hJ.1;rwa[FE] at this)) ?_
    rintro _ _ ⟨v2,L2,G6,rfl⟩
    refine jg 0 [.b b7 (.cells ⟨[zP b7,v2]⟩ 349 (0,0)),.l L2]<|zD 11<|bO mo (⟨1,1,v2,L2,[(IntKind.u8.wrap ((u.toNat:Int)+32))]⟩) ⟨G6,.inr ⟨rfl,rfl,rfl⟩⟩ (by dsimp only;omega) [0,1] (Sub.refl _)
   exfalso;omega
  have Dq:=h5
  replace Dq:=of_decide_eq_false Dq
  exfalso;omega
 refine zD 4 ?_
 obtain⟨hj1,hp1,hx1⟩:j=1∧p=1∧xs=[(IntKind.u8.wrap ((u.toNat:Int)+32))]:=by rcases hJ.2 with h|h;omega;exact h
 refine jw 8 (zI 1) (show Value.int .i64 p= zI 1 by rw[hp1])<|zD 9 ?_
 obtain⟨bb,lz,cap,nV,rfl,rfl⟩:=aiq (by have:=hJ.1;rwa[hx1] at this)
 refine zD 1<|jc (vs:=[zP b7]) [0,1] (aSl (bb:=bb) (l:=lz) (c:=(IntKind.u8.wrap ((u.toNat:Int)+32))) nV) ?_
 rintro _ Yz rfl
 refine zD 3<|aE q0 (.string (Yj (IntKind.u8.wrap ((u.toNat:Int)+32)))) [] [] [] (Sub.refl _) ⟨_,_,rfl,rfl,rfl,rfl⟩
def abG(u:UInt8):ByteArray:=if u.toNat <97 then Yj (IntKind.u8.wrap ((u.toNat:Int)+32)) else tA u
theorem aRI{u:UInt8}{ro:Nat→Option Obj}(h:Fu u=true∨E5 u=true):dz zT 236 [.string (tA u)] ro (.string (abG u)):=by
 unfold abG
 rcases h with h|h
 ·simp only[Fu,Bool.and_eq_true,Nat.ble_eq] at h
  rw[if_neg (by omega)]
  exact aDu (by omega)
 simp only[E5,Bool.and_eq_true,Nat.ble_eq] at h
 rw[if_pos (by omega)]
 exact aDt (by omega)
def uqN(rs:List cG)(a to:ByteArray):Nat→Nat→Option Nat
 |0,_=>none
 |f+1,m=>bif decide (0 <(Mp rs to m a []).length) then some m else uqN rs a to f (m+1)
def uq(rs:List cG)(a to:ByteArray):Option Nat:=uqN rs a to 3 0
def iW(c:UInt8):ByteArray:=if c.toNat=67 then bs [99,104] else if c.toNat=74 then bs [106,117] else if c.toNat=89 then bs [106,97] else if c.toNat=88 then bs [115,104] else if c.toNat <97 then bs [c.toNat+32] else bs [c.toNat]
def Hy:List UInt8→ByteArray→ByteArray
 | [],a=>a
 |c::l,a=>Hy l (a++iW c)
def keyOf(w:ByteArray):ByteArray:=Hy w.data.toList (bs [])
theorem ai2{l:List UInt8}{c:UInt8}{a:ByteArray}(h:l[k]?=some c):Hy (l.drop k) a=Hy (l.drop (k+1)) (a++iW c):=by rw[fN h];rfl
theorem abU{l:List UInt8}{a:ByteArray}(h:l[k]?=none):Hy (l.drop k) a=a:=by rw[eF (by rw[List.getElem?_eq_none_iff] at h;omega)];rfl
def Em(rs:List cG)(a b:ByteArray):Int:=match uq rs (keyOf a) (keyOf b) with
 |none=>2
 |some 0=>1
 |some _=>3
structure qV(w:ByteArray):Prop where
 n:1≤w.size∧w.size≤6
 s:Script w
def Rs(c:UInt8):Prop:=Fu c=true∨E5 c=true
theorem qV.let{w:ByteArray}(h:qV w):∀c∈w.data.toList,Rs c:=fun c hc=>h.s.elim (fun k=> .inl (k c hc)) fun k=> .inr (k c hc)
theorem Wo:((List.range 256).all fun n=> !(Fu (UInt8.ofNat n)||E5 (UInt8.ofNat n))||(aiR (iW (UInt8.ofNat n))&&(Nat.ble 1 (iW (UInt8.ofNat n)).size&&Nat.ble (iW (UInt8.ofNat n)).size 2)))=true:=by kernel_rfl
theorem M0{c:UInt8}(h:Rs c):wV (iW c)∧1≤(iW c).size∧(iW c).size≤2:=by
 have h2:=List.all_eq_true.1 Wo c.toNat (List.mem_range.2 c.toNat_lt)
 have hb:UInt8.ofNat c.toNat=c:=by simp
 rw[hb] at h2
 have h3:(Fu c||E5 c)=true:=by rcases h with h|h<;>simp[h]
 rw[h3] at h2
 simp only[Bool.not_true,Bool.false_or,Bool.and_eq_true,Nat.ble_eq] at h2
 exact⟨Fo h2.1,h2.2⟩
theorem US:∀ {l:List UInt8} {a:ByteArray},(∀c∈l,Rs c)→wV a→wV (Hy l a)∧(Hy l a).size≤a.size+2*l.length
 | [],a,_,ha=>⟨ha,by simp[Hy]⟩
 |c::l,a,h,ha=>by
  have h1:=M0 (h c (by simp))
  obtain⟨h2,h3⟩:=US (l:=l) (a:=a++iW c) (fun x hx=>h x (by simp[hx])) (ha.app h1.1)
  refine⟨h2,?_⟩
  simp only[Hy,ByteArray.size_append,List.length_cons] at h3 ⊢
  omega
theorem NZ{w:ByteArray}(h:qV w):wV (keyOf w)∧(keyOf w).size≤12:=by
 have h1:=US (l:=w.data.toList) (a:=bs []) h.let (fun b hb=>by cases hb)
 have h2:w.data.toList.length=w.size:=Array.length_toList
 have h3:=h.n
 exact⟨h1.1,by have:=h1.2;have e:(bs []).size=0:=rfl;unfold keyOf;omega⟩
theorem aiQ{c:UInt8}(h:Rs c)(h1:¬(c.toNat:Int)=67)(h2:¬(c.toNat:Int)=74)(h3:¬(c.toNat:Int)=89)(h4:¬(c.toNat:Int)=88):abG c=iW c:=by
 simp only[abG,iW,if_neg (show ¬c.toNat=67 by omega),if_neg (show ¬c.toNat=74 by omega),if_neg (show ¬c.toNat=89 by omega),if_neg (show ¬c.toNat=88 by omega)]
 split
 ·simp only[Yj,bs]
  rw[rK .u8 rfl _ (by omega) (by simp[IntKind.bits];omega),show ((c.toNat:Int)+32).toNat=c.toNat+32 by omega]
  rfl
 simp[tA,bs]
theorem let_128{c:UInt8}(h:Rs c):c.toNat <128:=by
 rcases h with h|h
 ·simp only[Fu,Bool.and_eq_true,Nat.ble_eq] at h;omega
 simp only[E5,Bool.and_eq_true,Nat.ble_eq] at h;omega
theorem ape{c:UInt8}{ro:Nat→Option Obj}(h:Rs c):dz zT 217 [.int .i32 (c.toNat:Int)] ro (.string (iW c)):=by
 refine bA au [] [] bn<|zD 29<|zJ 5 ((c.toNat:Int)=67) (fun h1=>?_) fun h1=>?_
 ·
  refine zD 8<|aE q0 (.string (bs [99,104])) [] [] [] (Sub.refl _) ⟨_,_,rfl,rfl,by rw[iW,if_pos (by omega)]<;>rfl,rfl⟩
 refine zD 8<|zJ 7 ((c.toNat:Int)=74) (fun h2=>?_) fun h2=>?_
 ·
  refine zD 17<|jsa (a:=(bs [106])) (b:=(bs [117])) 9 (by decide)<|zD 3<|aE q0 (.string ((bs [106])++(bs [117]))) [] [] [] (Sub.refl _) ⟨_,_,rfl,rfl,by rw[iW,if_neg (by omega),if_pos (by omega)]<;>rfl,rfl⟩
 refine zD 8<|zJ 9 ((c.toNat:Int)=89) (fun h3=>?_) fun h3=>?_
 ·
  refine zD 16<|jsa (a:=(bs [106])) (b:=(bs [97])) 9 (by decide)<|zD 3<|aE q0 (.string ((bs [106])++(bs [97]))) [] [] [] (Sub.refl _) ⟨_,_,rfl,rfl,by rw[iW,if_neg (by omega),if_neg (by omega),if_pos (by omega)]<;>rfl,rfl⟩
 refine zD 7<|zJ 11 ((c.toNat:Int)=88) (fun h4=>?_) fun h4=>?_
 ·
  refine zD 8<|aE q0 (.string (bs [115,104])) [] [] [] (Sub.refl _) ⟨_,_,rfl,rfl,by rw[iW,if_neg (by omega),if_neg (by omega),if_neg (by omega),if_pos (by omega)]<;>rfl,rfl⟩
 refine zD 6<|je (.string (tA c)) (akv (let_128 h))<|jp (vs:=[.string (tA c)]) [] [] (fun aA hs hZ=>(aRI h))<|zD 3<|aE q0 (.string (abG c)) [] [] [] (Sub.refl _) ⟨_,_,rfl,rfl,by rw[aiQ h (by omega) (by omega) (by omega) (by omega)],rfl⟩
theorem aiJ{w to:ByteArray}{ro:Nat→Option Obj}(hl:bI ro vl 2 jo rs)(hR:∀r∈rs,qU r)(hw:wV w)(rq:w.size≤100)(hq:rs.length≤100):eo zT 198 [.string w,vl,.string to] ro [] (fun r Y=>(∃n v ps,uq rs w to=some n∧r= .tuple ⟨[v,.bool true]⟩∧az v 1 9 oU ps Y∧ps.length=n+1)∨(uq rs w to=none∧r= .tuple ⟨[zS,.bool false]⟩∧Y=[])):=by
 obtain⟨fp,rh,q9,eJ,rfl,tq,k8,me⟩:=hl
 refine bA au [] [] bn<|zD 11<|ez [1,0,1,0,0] [] (fun(zz:Nat)=>[(0,.string w),(1,.slice fp rs.length eJ),(2,.string to),(11,zI (zz:Int))]) (fun(zz:Nat)=>[]) (fun(zz:Nat)=>zz≤3∧uq rs w to=uqN rs w to (3-zz) zz) (fun(zz:Nat)=>3-zz) 0 ⟨by omega,rfl⟩ [] ?_
 rintro k hI K1 bM rest
 refine zD 5<|zJ 12 ((k:Int) <3) (fun h1=>?_) fun h1=>?_
 ·
  refine zD 15<|jc (vs:=[.string w,.slice fp rs.length eJ,.string to,zI (k:Int)]) [] (abn (show bI _ _ _ _ _ from ⟨fp,rh,q9,eJ,rfl,tq,k8,me⟩)) ?_
  rintro _ _ ⟨abE,abD,abC,abB,rfl,rfl⟩
  refine jg 0 [.b abE (.cells ⟨[.string w]⟩ 291 (0,0)),.b abD (.cells ⟨[.slice fp rs.length eJ]⟩ 34 (0,0)),.b abC (.cells ⟨[.string to]⟩ 291 (0,0)),.b abB (.cells ⟨[zI (k:Int)]⟩ 3 (0,0))]<|jf [0,1,2,3] ((abE,.cells ⟨[.string w]⟩ 291 (0,0))::((abD,.cells ⟨[.slice fp rs.length eJ]⟩ 34 (0,0))::((abC,.cells ⟨[.string to]⟩ 291 (0,0))::[(abB,.cells ⟨[zI (k:Int)]⟩ 3 (0,0))]))) fun ro4 oB P5=>jc (vs:=[.func (.func 237) ⟨[]⟩ ⟨[zP abB,zP abC,zP abD,zP abE]⟩,.func (.func 220) ⟨[]⟩ ⟨[]⟩]) [] (apg (Xg (P5 _ (.tail _ (.tail _ (.tail _ (.head _))))) (P5 _ (.tail _ (.tail _ (.head _)))) (P5 _ (.tail _ (.head _))) (P5 _ (.head _)) ((show bI _ _ _ _ _ from ⟨fp,rh,q9,eJ,rfl,tq,k8,me⟩).up oB) hR hw rq hq (by omega)) (fun x hx=>by have:=Lu hx;simp at this;omega)) ?_
  rintro _ L20 ⟨v20,rfl,aLL,aN6,aq4⟩
  refine zD 10<|js 23 (decide (0 <(Mp rs to k w []).length)) (fun h5=>?_) (fun h5=>?_)
  ·
   refine zD 8<|aE q0.a (.tuple ⟨[v20,.bool true]⟩) [] [0] L20 oB ⟨_,_,rfl,rfl,.inl ⟨k,v20,aLL,by rw[hI.2,show 3-k=(3-(k+1))+1 by omega,uqN,h5];rfl,rfl,aN6,by have:=Lu (aq4 (of_decide_eq_true h5));simpa using this⟩⟩
  refine zD 3<|ja ((k:Int)+1) (by omega)<|zD 2<|bO bM (k+1) ⟨by omega,by rw[hI.2,show 3-k=(3-(k+1))+1 by omega,uqN,h5];rfl⟩ (by omega) [] oB
 refine zD 8<|aE q0 (.tuple ⟨[zS,.bool false]⟩) [] [] [] (Sub.refl _) ⟨_,_,rfl,rfl,.inr ⟨by rw[hI.2,show 3-k=0 by omega];rfl,rfl,rfl⟩⟩
theorem apu{c:UInt8}(h:Rs c):c.toNat <128:=by
 rcases h with h|h
 ·simp only[Fu,Bool.and_eq_true,Nat.ble_eq] at h;omega
 simp only[E5,Bool.and_eq_true,Nat.ble_eq] at h;omega
theorem aph{w to:ByteArray}{ro:Nat→Option Obj}(hl:bI ro vl 2 jo rs)(hR:∀r∈rs,qU r)(hw:wV w)(rq:w.size≤100)(hq:rs.length≤100):eo zT 198 [.string w,vl,.string to] ro [] (fun r Y=>∃v ps ok,r= .tuple ⟨[v,.bool ok]⟩∧az v 1 9 oU ps Y∧(ok=true→uq rs w to=some (ps.length-1)∧1≤ps.length)∧(ok=false→uq rs w to=none)):=by
 refine(aiJ hl hR hw rq hq).mono fun _ _ h=>?_
 rcases h with ⟨n,v,ps,h1,h2,h3,h4⟩| ⟨h1,h2,h3⟩
 ·exact⟨v,ps,true,h2,h3,fun _=>⟨by rw[h4];exact h1,by omega⟩,nofun⟩
 subst h3;exact⟨_,[],false,h2,az.nil _ _ _,nofun,fun _=>h1⟩
def uN(rs:List cG)(a b:ByteArray):Int:=match uq rs a b with
 |some n=>n
 |none=>0
def uE(rs:List cG)(a b:ByteArray):Int:=match uq rs a b with
 |some _=>0
 |none=>11
theorem ale{a to:ByteArray}:∀ {f m n:Nat},uqN rs a to f m=some n→n <m+f
 |0,_,_,h=>by cases h
 |f+1,m,n,h=>by
  simp only[uqN] at h
  cases hd:decide (0 <(Mp rs to m a []).length) with
  |true=>rw[hd] at h;simp only[cond_true,Option.some.injEq] at h;omega
  |false=>rw[hd] at h;simp only[cond_false] at h;have:=ale h;omega
theorem nOf{w:ByteArray}{ro:Nat→Option Obj}(hw:qV w):dz zT 197 [.string w] ro (.string (keyOf w)):=by
 refine bA au [] [] bn<|zD 12<|jn fun r7=>zD 2<|ez [1,1,0,1,0,0] [] (fun(zz:Nat×ByteArray)=>[(2,.string (bs [])),(3,.string zz.2),(7,zP r7)]) (fun(zz:Nat×ByteArray)=>[.b r7 (.stringIter w zz.1)]) (fun(zz:Nat×ByteArray)=>(zz.1≤w.data.toList.length∧zz.2.size≤2*zz.1)∧keyOf w=Hy (w.data.toList.drop zz.1) zz.2) (fun(zz:Nat×ByteArray)=>w.data.toList.length-zz.1) (⟨0,(bs [])⟩) ⟨⟨by omega,Nat.le_refl _⟩,rfl⟩ [0] ?_
 rintro⟨p,a⟩ hI K1 bM rest
 dsimp only at hI
 refine zD 2 ?_
 cases hn8:w.data.toList[p]? with
 |some x8=>
  refine jnA r7 0 hn8 (apu (hw.let _ (List.mem_of_getElem? hn8)))<|zD 11 ?_
  have hso:=M0 (hw.let _ (List.mem_of_getElem? hn8))
  have hlen:w.data.toList.length=w.size:=Array.length_toList
  have hwn:=hw.n
  refine zD 3<|jp (vs:=[.int .i32 (x8.toNat:Int)]) [] [] (fun aA hs hZ=>(ape (hw.let _ (List.mem_of_getElem? hn8))))<|jsa (a:=a) (b:=(iW x8)) 9 (by omega)<|zD 2<|bO bM (⟨p+1,(a++iW x8)⟩) ⟨⟨by have:=(List.getElem?_eq_some_iff.1 hn8).1;dsimp only;omega,by dsimp only;rw[ByteArray.size_append];omega⟩,by rw[hI.2,ai2 hn8]⟩ (by have:=(List.getElem?_eq_some_iff.1 hn8).1;dsimp only;omega) [0] (Sub.refl _)
 |none=>
  refine jnZ r7 0 hn8<|zD 11<|aE q0 (.string a) [] [] [] (Sub.refl _) ⟨_,_,rfl,rfl,by rw[hI.2,abU hn8],rfl⟩
theorem aiI{ro:Nat→Option Obj}(hl:bI ro vl 2 jo rs)(hR:∀r∈rs,qU r)(hq:rs.length≤4)(HE:qV na)(FR:qV nb):eo zT 157 [vl,.string na,.string nb] ro [] (fun r Y=>∃v ps e,r= .tuple ⟨[v,zI e]⟩∧az v 1 9 oU ps Y∧ps.length≤3∧((e=0∧uq rs (keyOf na) (keyOf nb)=some (ps.length-1)∧1≤ps.length)∨(e=11∧uq rs (keyOf na) (keyOf nb)=none))):=by
 obtain⟨fp,rh,q9,eJ,rfl,tq,k8,me⟩:=hl
 refine bA au [] [] bn<|zD 9<|jp (vs:=[.slice fp rs.length eJ]) [] [] (fun aA hs hZ=>Xe ((show bI _ _ _ _ _ from ⟨fp,rh,q9,eJ,rfl,tq,k8,me⟩).up hs) (by omega) hR)<|zD 14<|jn fun GS=>jp (vs:=[.slice (some ⟨GS,0,none⟩) 2 2]) [0] [(GS,.cells ⟨([na,nb].map oU).flatten⟩ 9 (0,0))] (fun aA hs hZ=>abm (bS [na,nb] hZ.head (by intro p hp;rfl)) (by first|omega| (simp only[List.length_set,List.length_append,List.length_cons,List.length_nil];omega)) (by intro x hx;simp only[List.mem_cons,List.not_mem_nil,or_false] at hx;rcases hx with rfl|rfl;exact⟨HE.n,HE.s⟩;exact⟨FR.n,FR.s⟩)) ?_
 refine zD 12<|jp (vs:=[.string na]) [] [] (fun aA hs hZ=>(nOf HE))<|zD 2<|jp (vs:=[.string nb]) [] [] (fun aA hs hZ=>(nOf FR))<|jc (vs:=[.string (keyOf na),.slice fp rs.length eJ,.string (keyOf nb)]) [] (aph (show bI _ _ _ _ _ from ⟨fp,rh,q9,eJ,rfl,tq,k8,me⟩) hR (NZ HE).1 (by have:=(NZ HE).2;omega) (by omega)) ?_
 rintro _ L30 ⟨v30,aLK,aLU,rfl,BA,ap9,aMO⟩
 refine zD 12<|js 34 (!aLU) (fun h1=>?_) (fun h1=>?_)
 ·
  try simp only[zB] at h1
  refine zD 7<|aE q0 (.tuple ⟨[zS,zI 11]⟩) [] [] [] (Sub.refl _) ⟨_,_,rfl,rfl,_,[],_,rfl,az.nil _ _ _,by simp,.inr ⟨rfl,aMO (by simp_all)⟩⟩
 try simp only[zB] at h1
 refine zD 9<|aE q0 (.tuple ⟨[v30,zI 0]⟩) [] [0] L30 (Sub.refl _) ⟨_,_,rfl,rfl,_,aLK,_,rfl,BA,by have:=ale (ap9 (by simp_all)).1;have:=(ap9 (by simp_all)).2;omega,.inl ⟨rfl,ap9 (by simp_all)⟩⟩
theorem axO{ro:Nat→Option Obj}(hl:bI ro vl 2 jo rs)(hR:∀r∈rs,qU r)(hq:rs.length≤4)(HE:qV na)(FR:qV nb):dz zT 113 [vl,.string na,.string nb] ro (.tuple ⟨[zI (uN rs (keyOf na) (keyOf nb)),zI (uE rs (keyOf na) (keyOf nb))]⟩):=by
 obtain⟨fp,rh,q9,eJ,rfl,tq,k8,me⟩:=hl
 refine bA au [] [] bn<|zD 10<|jc (vs:=[.slice fp rs.length eJ,.string na,.string nb]) [] (aiI (show bI _ _ _ _ _ from ⟨fp,rh,q9,eJ,rfl,tq,k8,me⟩) hR hq HE FR) ?_
 rintro _ L14 ⟨v14,axp,Ak,rfl,FQ,bbW,xp⟩
 refine zD 12<|js 18 (!decide (Ak=0)) (fun h1=>?_) (fun h1=>?_)
 ·
  replace h1:=of_decide_eq_false (by simpa using h1)
  refine zD 8<|aE q0 (.tuple ⟨[zI 0,zI Ak]⟩) [] [] [] (Sub.refl _) ⟨_,_,rfl,rfl,by rcases xp with ⟨h1,h2,h3⟩| ⟨h1,h2⟩<;>simp only[uN,uE,h2]<;>(subst h1;simp_all<;>omega),rfl⟩
 replace h1:=of_decide_eq_true (by simpa using h1)
 refine zD 5<|DX FQ<|ja ((axp.length:Int)-1) (by omega)<|zD 4<|aE q0 (.tuple ⟨[zI ((axp.length:Int)-1),zI 0]⟩) [] [] [] (Sub.refl _) ⟨_,_,rfl,rfl,by rcases xp with ⟨h1,h2,h3⟩| ⟨h1,h2⟩<;>simp only[uN,uE,h2]<;>(subst h1;simp_all<;>omega),rfl⟩
theorem NL{ro:Nat→Option Obj}(hl:bI ro vl 2 jo rs)(hR:∀r∈rs,qU r)(hq:rs.length≤4)(HE:qV na)(FR:qV nb):dz zT 87 [vl,.string na,.string nb] ro (.tuple ⟨[zI (Em rs na nb),zI 0]⟩):=by
 obtain⟨fp,rh,q9,eJ,rfl,tq,k8,me⟩:=hl
 refine bA au [] [] bn<|zD 10<|jp (vs:=[.slice fp rs.length eJ,.string na,.string nb]) [] [] (fun aA hs hZ=>axO ((show bI _ _ _ _ _ from ⟨fp,rh,q9,eJ,rfl,tq,k8,me⟩).up hs) hR hq HE FR)<|zD 14<|zJ 17 ((uE rs (keyOf na) (keyOf nb))=11) (fun h1=>?_) fun h1=>?_
 ·
  refine zD 7<|aE q0 (.tuple ⟨[zI 2,zI 0]⟩) [] [] [] (Sub.refl _) ⟨_,_,rfl,rfl,by simp only[uN,uE,Em] at*;rcases huq:uq rs (keyOf na) (keyOf nb) with _|_|n<;>simp_all<;>omega,rfl⟩
 refine zD 7<|js 20 (!decide ((uE rs (keyOf na) (keyOf nb))=0)) (fun h2=>?_) (fun h2=>?_)
 ·
  replace h2:=of_decide_eq_false (by simpa using h2)
  refine zD 8<|aE q0 (.tuple ⟨[zI 0,zI (uE rs (keyOf na) (keyOf nb))]⟩) [] [] [] (Sub.refl _) ⟨_,_,rfl,rfl,by simp only[uN,uE,Em] at*;rcases huq:uq rs (keyOf na) (keyOf nb) with _|_|n<;>simp_all<;>omega,rfl⟩
 replace h2:=of_decide_eq_true (by simpa using h2)
 refine zD 7<|zJ 24 ((uN rs (keyOf na) (keyOf nb))=0) (fun h3=>?_) fun h3=>?_
 ·
  refine zD 7<|aE q0 (.tuple ⟨[zI 1,zI 0]⟩) [] [] [] (Sub.refl _) ⟨_,_,rfl,rfl,by simp only[uN,uE,Em] at*;rcases huq:uq rs (keyOf na) (keyOf nb) with _|_|n<;>simp_all<;>omega,rfl⟩
 refine zD 8<|aE q0 (.tuple ⟨[zI 3,zI 0]⟩) [] [] [] (Sub.refl _) ⟨_,_,rfl,rfl,by simp only[uN,uE,Em] at*;rcases huq:uq rs (keyOf na) (keyOf nb) with _|_|n<;>simp_all<;>omega,rfl⟩
end Go.L
