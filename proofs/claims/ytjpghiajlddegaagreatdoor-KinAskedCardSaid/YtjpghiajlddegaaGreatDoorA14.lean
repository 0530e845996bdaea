/- Part 14 of the proof: a program logic, contracts, a theorem on goroutines. -/
import Derived.Test.YtjpghiajlddegaaGreatDoorA13
set_option maxRecDepth 100000
set_option linter.all false
namespace Go.L
open Go Go.Conc Go.Proofs
variable {rs:List cP} {f t x na nb:ByteArray} {vl c11 c0 c1 c5 c6 c7 vt:Value} {k b many b1 b2 bE b3 bl bm bt br bg n b4:Nat} {p:ByteArray×ByteArray} {xs:List Int} {l:List ByteArray} {Stop:Cells→Prop} {ai gone new lo hi:Int}
def wT(w:ByteArray):Prop:=∀b∈w.data.toList,b.toNat <128∧kindOf (b.toNat:Int)=1
def ajW(w:ByteArray):Bool:=w.data.toList.all fun b=>Nat.blt b.toNat 128&&decide (kindOf (b.toNat:Int)=1)
theorem Fz{w:ByteArray}(h:ajW w=true):wT w:=fun b hb=>by
 have:=List.all_eq_true.1 h b hb
 simp only[Bool.and_eq_true,Nat.blt_eq,decide_eq_true_eq] at this
 exact this
def UT(r:cP):Bool:=(Nat.ble 1 r.f.size&&Nat.ble r.f.size 2)&&(Nat.ble r.t.size 2&&(ajW r.f&&(ajW r.t&& !cQ r.f r.t)))
theorem Xx:(aog.all fun f=>toW.all fun t=>UT ⟨f,t⟩)=true:=by kernel_rfl
structure qU(r:cP):Prop where
 f1:1≤r.f.size∧r.f.size≤2
 t1:r.t.size≤2
 fl:wT r.f
 tl:wT r.t
 ne:cQ r.f r.t=false
theorem apN{r:cP}(h:Hi r):qU r:=by
 have:=List.all_eq_true.1 (List.all_eq_true.1 Xx r.f h.1) r.t h.2
 simp only[UT,Bool.and_eq_true,Nat.ble_eq,Bool.not_eq_true'] at this
 exact⟨this.1,this.2.1,Fz this.2.2.1,Fz this.2.2.2.1,this.2.2.2.2⟩
theorem aza{r:Int}{ro:Nat→Option Obj}:dL zT 235 [.int .i32 r] ro (.bool (!decide (kindOf r=1))):=by
 refine bI av [] [] bB<|zD 7<|jp (vs:=[.int .i32 r]) [] [] (fun aE hs hZ=>anc)<|zD 4<|aJ q0 (.bool (!decide ((kindOf r)=1))) [] [] [] (Sub.refl _) ⟨_,_,rfl,rfl,rfl,rfl⟩
theorem aLK{w:ByteArray}{ro:Nat→Option Obj}(hK:wT w):dL zT 273 [.string w,.func (.func 235) ⟨[]⟩ ⟨[]⟩,.bool true] ro (zI (-1)):=by
 refine bI av [] [] bB<|zD 8<|jn fun r10=>zD 2<|eG [1,0,1,0,0] [] (fun(zz:Nat)=>[(1,.func (.func 235) ⟨[]⟩ ⟨[]⟩),(2,.bool true),(10,zP r10)]) (fun(zz:Nat)=>[.b r10 (.stringIter w zz)]) (fun(zz:Nat)=>zz≤w.data.toList.length) (fun(zz:Nat)=>w.data.toList.length-zz) 0 (by omega) [0] ?_
 rintro p hI K1 bU rest
 refine zD 2 ?_
 cases YD:w.data.toList[p]? with
 |some x11=>
  refine jnA r10 0 YD (hK _ (List.mem_of_getElem? YD)).1<|zD 14 ?_
  have V1:=(hK _ (List.mem_of_getElem? YD)).2
  refine zD 3<|jp (vs:=[.int .i32 (x11.toNat:Int)]) [] [] (fun aE hs hZ=>aza)<|zD 1<|je (.bool ((!decide (kindOf (x11.toNat:Int)=1))==true)) rfl<|zD 1<|js 19 ((!decide (kindOf (x11.toNat:Int)=1))==true) (fun h1=>?_) (fun h1=>?_)
  ·
   exfalso;rw[V1] at h1;cases h1
  refine zD 2<|bO bU (p+1) (by have:=(List.getElem?_eq_some_iff.1 YD).1;omega) (by have:=(List.getElem?_eq_some_iff.1 YD).1;omega) [0] (Sub.refl _)
 |none=>
  refine jnZ r10 0 YD<|zD 10<|aJ q0 (zI (-1)) [] [] [] (Sub.refl _) ⟨_,_,rfl,rfl,rfl,rfl⟩
theorem axL{w:ByteArray}{ro:Nat→Option Obj}(hK:wT w):dL zT 256 [.string w,.func (.func 235) ⟨[]⟩ ⟨[]⟩] ro (zI (-1)):=by
 refine bI av [] [] bB<|zD 8<|jp (vs:=[.string w,.func (.func 235) ⟨[]⟩ ⟨[]⟩,.bool true]) [] [] (fun aE hs hZ=>(aLK hK))<|zD 3<|aJ q0 (zI (-1)) [] [] [] (Sub.refl _) ⟨_,_,rfl,rfl,rfl,rfl⟩
theorem axN{w:ByteArray}{ro:Nat→Option Obj}(hK:wT w):dL zT 234 [.string w,.func (.func 235) ⟨[]⟩ ⟨[]⟩] ro (.bool false):=by
 refine bI av [] [] bB<|zD 8<|jp (vs:=[.string w,.func (.func 235) ⟨[]⟩ ⟨[]⟩]) [] [] (fun aE hs hZ=>(axL hK))<|zD 4<|aJ q0 (.bool false) [] [] [] (Sub.refl _) ⟨_,_,rfl,rfl,rfl,rfl⟩
theorem OI{w:ByteArray}{ro:Nat→Option Obj}(hK:wT w)(hn:w.size≤1000):dL zT 216 [.string w,zI lo,zI hi] ro (.bool (decide (lo≤w.size)&&decide ((w.size:Int)≤hi))):=by
 refine bI av [] [] bB<|zD 11<|jj 5 [(0,.string w),(6,.bool false),(16,.bool ((decide (lo≤(w.size:Int)))&&(decide ((w.size:Int)≤hi))))] (fun gJ=>?_) (fun hj=>?_)
 rotate_left
 refine js 11 (decide (lo≤(w.size:Int))) (fun h1=>?_) (fun h1=>?_)
 ·
  have gh:=h1
  replace gh:=of_decide_eq_true gh
  refine zD 5<|jw 16 (.bool ((decide (lo≤(w.size:Int)))&&(decide ((w.size:Int)≤hi)))) (w:= .bool (decide ((w.size:Int)≤hi))) (by rw[h1]<;>rfl) ?_
  exact hj _ (by kernel_rfl) (by kernel_rfl)
 ·
  have gh:=h1
  replace gh:=of_decide_eq_false gh
  refine zD 5<|jw 16 (.bool ((decide (lo≤(w.size:Int)))&&(decide ((w.size:Int)≤hi)))) (w:= .bool false) (by rw[h1]<;>rfl) ?_
  exact hj _ (by kernel_rfl) (by kernel_rfl)
 refine zD 1<|jj 4 [(6,.bool false),(21,.bool (((decide (lo≤(w.size:Int)))&&(decide ((w.size:Int)≤hi)))&&true))] (fun gJ=>?_) (fun hj=>?_)
 rotate_left
 refine js 17 ((decide (lo≤(w.size:Int)))&&(decide ((w.size:Int)≤hi))) (fun h2=>?_) (fun h2=>?_)
 ·
  have mr:=h2
  try simp only[zB] at mr
  refine zD 1<|jp (vs:=[.string w,.func (.func 235) ⟨[]⟩ ⟨[]⟩]) [] [] (fun aE hs hZ=>(axN hK))<|zD 2<|jw 21 (.bool (((decide (lo≤(w.size:Int)))&&(decide ((w.size:Int)≤hi)))&&true)) (w:= .bool true) (by rw[h2]<;>rfl) ?_
  exact hj _ (by kernel_rfl) (by kernel_rfl)
 ·
  have mr:=h2
  try simp only[zB] at mr
  refine zD 4<|jw 21 (.bool (((decide (lo≤(w.size:Int)))&&(decide ((w.size:Int)≤hi)))&&true)) (w:= .bool false) (by rw[h2]<;>rfl) ?_
  exact hj _ (by kernel_rfl) (by kernel_rfl)
 refine zD 3<|aJ q0 (.bool (((decide (lo≤(w.size:Int)))&&(decide ((w.size:Int)≤hi)))&&true)) [] [] [] (Sub.refl _) ⟨_,_,rfl,rfl,by simp_all,rfl⟩
theorem I9{w:ByteArray}{ro:Nat→Option Obj}(hK:wT w)(h1:lo≤w.size)(h2:(w.size:Int)≤hi)(h3:w.size≤1000):dL zT 216 [.string w,zI lo,zI hi] ro (.bool true):=by
 have:=OI (ro:=ro) hK h3 (lo:=lo) (hi:=hi)
 rw[decide_eq_true h1,decide_eq_true h2] at this
 exact this
theorem X6{v:Value}{ro:Nat→Option Obj}(hv:bL ro v 2 iB rs)(hn:rs.length≤4)(hR:∀r∈rs,qU r):dL zT 195 [v] ro (zI 0):=by
 obtain⟨N8,qvb,qvo,C9,rfl,qvk,RR,RQ⟩:=hv
 refine bI av [] [] bB<|zD 11<|zJ 7 ((rs.length:Int)>4) (fun h1=>?_) fun h1=>?_
 ·
  exfalso;omega
 refine zD 10<|eG [1,1,0,1,0,0] [] (fun(zz:Nat)=>[(8,.slice N8 rs.length C9),(9,zI (rs.length:Int)),(10,zI (zz:Int))]) (fun(zz:Nat)=>[]) (fun(zz:Nat)=>zz≤rs.length) (fun(zz:Nat)=>rs.length-zz) 0 (by omega) [] ?_
 rintro k hI K1 bU rest
 refine zD 5<|zJ 11 ((k:Int) <(rs.length:Int)) (fun h2=>?_) fun h2=>?_
 ·
  refine zD 6 ?_
  obtain⟨sU,pX⟩:=zG rs k
  refine iE C9 2 RR pX<|jl 0 (RQ _ _ pX)<|jn fun b4=>jd 3 [0] ?_
  have hrp:=(hR _ (List.mem_of_getElem? pX))
  have hrf:=hrp.f1
  have hrt:=hrp.t1
  refine jd 3 [0]<|jp (vs:=[.string sU.f,zI 1,zI 2]) [] [] (fun aE hs hZ=>(I9 hrp.fl (by omega) (by omega) (by omega)))<|jd 4 [0]<|jp (vs:=[.string sU.t,zI 0,zI 2]) [] [] (fun aE hs hZ=>(I9 hrp.tl (by omega) (by omega) (by omega)))<|jd 10 [0,0]<|js 30 (cQ sU.f sU.t) (fun h3=>?_) (fun h3=>?_)
  ·
   exfalso;rw[hrp.ne] at h3;cases h3
  refine zD 3<|ja ((k:Int)+1) (by omega)<|zD 2<|bO bU (k+1) (by omega) (by omega) [] (Sub.refl _)
 refine zD 7<|aJ q0 (zI 0) [] [] [] (Sub.refl _) ⟨_,_,rfl,rfl,rfl,rfl⟩
def uz:List Int→Int
 | []=>0
 |x::xs=>xs.foldl min x
def Bz:List Int→Int
 | []=>0
 |x::xs=>xs.foldl max x
theorem aqQ{x:Int}(h:xs[0]?=some x):uz xs=(xs.drop 1).foldl min x:=by
 cases xs with
 |nil=>cases h
 |cons y l=>simp at h;subst h;rfl
theorem aqR{x:Int}(h:xs[0]?=some x):Bz xs=(xs.drop 1).foldl max x:=by
 cases xs with
 |nil=>cases h
 |cons y l=>simp at h;subst h;rfl
def u1(l:List Int):Int:=(l.filter fun x=>decide (x>0)).length
theorem I5{l:List Int}{x:Int}(h:l[k]?=some x):u1 (l.take (k+1))=u1 (l.take k)+if x>0 then 1 else 0:=by
 rw[fu h,u1,List.filter_append,u1]
 by_cases hx:x>0<;>simp[hx]
structure aA where
 past:Int
 w0:Int
 w1:Int
 w2:Int
 w3:Int
 gone:Int
 new:Int
 ai:Int
abbrev cU(x:aA):List Value:=[zI x.past,zI x.w0,zI x.w1,zI x.w2,zI x.w3,zI x.gone,zI x.new,zI x.ai]
def dC(g n m:Int)(x:aA):Bool:=decide (x.gone≤g)&&(decide (x.new≤n)&&decide (x.ai≤m))
def hasB(f i:Int):Bool:=decide (SB .u8 (aV .u8 f i) 1=1)
theorem aLI{v:Value}{ro:Nat→Option Obj}(hl:bL ro v 1 db xs)(hn:0 <xs.length∧xs.length≤1000000):dL zT 110 [v] ro (zI (uz xs)):=by
 obtain⟨fC,rj,ri,eV,rfl,tj,lB,mz⟩:=hl
 refine bI av [] [] bB<|zD 11<|zJ 7 ((xs.length:Int) <1) (fun h1=>?_) fun h1=>?_
 ·
  exfalso;omega
 refine zD 5 ?_
 obtain⟨x10,rq⟩:=zG xs 0
 refine iE eV 1 lB rq<|jl 0 (mz _ _ rq)<|zD 8<|eG [1,1,1,0,1,0,0] [] (fun(zz:Nat×Int)=>[(0,.slice fC xs.length eV),(2,zI 0),(3,zI zz.2),(4,zI (zz.1:Int))]) (fun(zz:Nat×Int)=>[]) (fun(zz:Nat×Int)=>(1≤zz.1∧zz.1≤xs.length)∧uz xs=(xs.drop zz.1).foldl min zz.2) (fun(zz:Nat×Int)=>xs.length-zz.1) (⟨1,x10⟩) ⟨by dsimp only;omega,aqQ rq⟩ [] ?_
 rintro⟨k,m⟩ hI K1 bU rest
 dsimp only at hI
 refine zD 8<|zJ 15 ((k:Int) <(xs.length:Int)) (fun h2=>?_) fun h2=>?_
 ·
  refine zD 8 ?_
  obtain⟨xI,pW⟩:=zG xs k
  refine iE eV 1 lB pW<|jl 0 (mz _ _ pW)<|jmn (k:= .i64) (a:=m) (b:=xI)<|zD 4<|ja ((k:Int)+1) (by omega)<|zD 2<|bO bU (⟨k+1,(min m xI)⟩) ⟨by dsimp only;omega,by rw[hI.2,fT pW];rfl⟩ (by dsimp only;omega) [] (Sub.refl _)
 refine zD 8<|aJ q0 (zI m) [] [] [] (Sub.refl _) ⟨_,_,rfl,rfl,by rw[hI.2,eP (by omega)];rfl,rfl⟩
theorem aLJ{v:Value}{ro:Nat→Option Obj}(hl:bL ro v 1 db xs)(hn:0 <xs.length∧xs.length≤1000000):dL zT 111 [v] ro (zI (Bz xs)):=by
 obtain⟨fC,rj,ri,eV,rfl,tj,lB,mz⟩:=hl
 refine bI av [] [] bB<|zD 11<|zJ 7 ((xs.length:Int) <1) (fun h1=>?_) fun h1=>?_
 ·
  exfalso;omega
 refine zD 5 ?_
 obtain⟨x10,rq⟩:=zG xs 0
 refine iE eV 1 lB rq<|jl 0 (mz _ _ rq)<|zD 8<|eG [1,1,1,0,1,0,0] [] (fun(zz:Nat×Int)=>[(0,.slice fC xs.length eV),(2,zI 0),(3,zI zz.2),(4,zI (zz.1:Int))]) (fun(zz:Nat×Int)=>[]) (fun(zz:Nat×Int)=>(1≤zz.1∧zz.1≤xs.length)∧Bz xs=(xs.drop zz.1).foldl max zz.2) (fun(zz:Nat×Int)=>xs.length-zz.1) (⟨1,x10⟩) ⟨by dsimp only;omega,aqR rq⟩ [] ?_
 rintro⟨k,m⟩ hI K1 bU rest
 dsimp only at hI
 refine zD 8<|zJ 15 ((k:Int) <(xs.length:Int)) (fun h2=>?_) fun h2=>?_
 ·
  refine zD 8 ?_
  obtain⟨xI,pW⟩:=zG xs k
  refine iE eV 1 lB pW<|jl 0 (mz _ _ pW)<|jmx (k:= .i64) (a:=m) (b:=xI)<|zD 4<|ja ((k:Int)+1) (by omega)<|zD 2<|bO bU (⟨k+1,(max m xI)⟩) ⟨by dsimp only;omega,by rw[hI.2,fT pW];rfl⟩ (by dsimp only;omega) [] (Sub.refl _)
 refine zD 8<|aJ q0 (zI m) [] [] [] (Sub.refl _) ⟨_,_,rfl,rfl,by rw[hI.2,eP (by omega)];rfl,rfl⟩
theorem anq{v:Value}{ro:Nat→Option Obj}(hl:bL ro v 1 db xs)(hn:0 <xs.length∧xs.length≤1000000):dL zT 82 [v] ro (.agg ⟨[zI (uz xs),zI (Bz xs)]⟩):=by
 obtain⟨fC,rj,ri,eV,rfl,tj,lB,mz⟩:=hl
 refine bI av [] [] bB<|zD 2<|jn fun b2=>zD 4<|jp (vs:=[.slice fC xs.length eV]) [] [] (fun aE hs hZ=>aLI ((show bL _ _ _ _ _ from ⟨fC,rj,ri,eV,rfl,tj,lB,mz⟩).up hs) (by omega))<|zD 1<|jp (vs:=[.slice fC xs.length eV]) [] [] (fun aE hs hZ=>aLJ ((show bL _ _ _ _ _ from ⟨fC,rj,ri,eV,rfl,tj,lB,mz⟩).up hs) (by omega))<|jd 4 [0]<|aJ q0 (.agg ⟨[zI (uz xs),zI (Bz xs)]⟩) [0] [] [] (Sub.refl _) ⟨_,_,rfl,rfl,rfl,rfl⟩
theorem akf{x:aA}{ro:Nat→Option Obj}:dL zT 81 [.agg ⟨[zI x.past,zI x.w0,zI x.w1,zI x.w2,zI x.w3,zI x.gone,zI x.new,zI x.ai]⟩] ro (.bool true):=by
 refine bI av [] [] bB<|zD 2<|jn fun b1=>zD 7<|aJ q0 (.bool true) [] [] [] (Sub.refl _) ⟨_,_,rfl,rfl,rfl,rfl⟩
theorem adn{f:Nat}{x:aA}{c2 c3 c4:Value}{ro:Nat→Option Obj}(hf:ro f=some (.cells ⟨[c0,c1,c2,c3,c4,c5,c6,c7,zI gone,zI new,zI ai,c11,vt]⟩ 116 (0,0))):dL zT 73 [zP f,.agg ⟨[zI x.past,zI x.w0,zI x.w1,zI x.w2,zI x.w3,zI x.gone,zI x.new,zI x.ai]⟩] ro (.bool (dC gone new ai x)):=by
 refine bI av [] [] bB<|zD 2<|jn fun b3=>jd 10 [0]<|jl (b:=f) (off:=0) (m:=13) (vs:=[c0,c1,c2,c3,c4,c5,c6,c7,zI gone,zI new,zI ai,c11,vt]) 8 ⟨_,_,_,.inl hf,rfl⟩<|zD 2<|js 8 (decide (x.gone≤gone)) (fun h1=>?_) (fun h1=>?_)
 ·
  have gh:=h1
  replace gh:=of_decide_eq_true gh
  refine jd 6 [0]<|jl (b:=f) (off:=0) (m:=13) (vs:=[c0,c1,c2,c3,c4,c5,c6,c7,zI gone,zI new,zI ai,c11,vt]) 9 ⟨_,_,_,.inl hf,rfl⟩<|zD 3<|js 18 (decide (x.new≤new)) (fun h2=>?_) (fun h2=>?_)
  ·
   have mr:=h2
   replace mr:=of_decide_eq_true mr
   refine jd 6 [0]<|jl (b:=f) (off:=0) (m:=13) (vs:=[c0,c1,c2,c3,c4,c5,c6,c7,zI gone,zI new,zI ai,c11,vt]) 10 ⟨_,_,_,.inl hf,rfl⟩<|zD 5<|aJ q0 (.bool (decide (x.ai≤ai))) [] [] [] (Sub.refl _) ⟨_,_,rfl,rfl,by simp_all[dC]<;>(intros;omega),rfl⟩
  have mr:=h2
  replace mr:=of_decide_eq_false mr
  refine zD 12<|aJ q0 (.bool false) [] [] [] (Sub.refl _) ⟨_,_,rfl,rfl,by simp_all[dC]<;>(intros;omega),rfl⟩
 have gh:=h1
 replace gh:=of_decide_eq_false gh
 refine zD 22<|aJ q0 (.bool false) [] [] [] (Sub.refl _) ⟨_,_,rfl,rfl,by simp_all[dC]<;>(intros;omega),rfl⟩
theorem arv{f i:Int}{ro:Nat→Option Obj}(hi:0≤i∧i≤8):dL zT 75 [.int .u8 f,zI i] ro (.bool (hasB f i)):=by
 refine bI av [] [] bB<|zD 8<|jsr (k:= .u8) (k':= .i64) (a:=f) (b:=i) 99 (by omega)<|zD 5<|aJ q0 (.bool (decide ((SB .u8 (aV .u8 f i) 1)=1))) [] [] [] (Sub.refl _) ⟨_,_,rfl,rfl,rfl,rfl⟩
theorem ara{p0 p1 p2 p3:Int}{ro:Nat→Option Obj}:dL zT 102 [.agg ⟨[zI p0,zI p1,zI p2,zI p3]⟩] ro (zI (u1 [p0,p1,p2,p3])):=by
 refine bI av [] [] bB<|zD 2<|jn fun b1=>jd 13 [0]<|eG [1,1,0,1,0,0] [] (fun(zz:Nat×Int)=>[(2,zI 0),(3,zI zz.2),(6,.agg ⟨[zI p0,zI p1,zI p2,zI p3]⟩),(7,zI (zz.1:Int))]) (fun(zz:Nat×Int)=>[]) (fun(zz:Nat×Int)=>zz.1≤4∧zz.2=u1 ([p0,p1,p2,p3].take zz.1)∧(0≤zz.2∧zz.2≤zz.1)) (fun(zz:Nat×Int)=>4-zz.1) (⟨0,0⟩) ⟨by omega,rfl,by omega⟩ [] ?_
 rintro⟨k,n⟩ hI K1 bU rest
 dsimp only at hI
 refine zD 5<|zJ 8 ((k:Int) <4) (fun h1=>?_) fun h1=>?_
 ·
  refine zD 6 ?_
  obtain⟨x9,ZL⟩:=zG ([p0,p1,p2,p3]:List Int) k (show k <4 from by omega)
  refine jai (l:=[zI p0,zI p1,zI p2,zI p3]) (k:Int) 4 1 false (by omega) (v:= zI x9) (show nth _ (k*1)=_ by rw[Nat.mul_one];exact aM3 ZL) ?_
  refine zD 7<|zJ 11 (x9>0) (fun h2=>?_) fun h2=>?_
  ·
   refine zD 3<|ja (n+1) (by omega)<|zD 3<|ja ((k:Int)+1) (by omega)<|zD 2<|bO bU (⟨k+1,(n+1)⟩) ⟨by dsimp only;omega,by rw[I5 ZL,if_pos (by assumption),hI.2.1],by dsimp only;omega⟩ (by dsimp only;omega) [] (Sub.refl _)
  refine zD 3<|ja ((k:Int)+1) (by omega)<|zD 2<|bO bU (⟨k+1,n⟩) ⟨by dsimp only;omega,by rw[I5 ZL,if_neg (by assumption),hI.2.1,Int.add_zero],by dsimp only;omega⟩ (by dsimp only;omega) [] (Sub.refl _)
 refine zD 8<|aJ q0 (zI n) [] [] [] (Sub.refl _) ⟨_,_,rfl,rfl,by rw[hI.2.1,show k=4 by omega];rfl,rfl⟩
theorem qI{α:Type}{xs:List α}{a:Option Addr}{o:Nat}(h:∀k,k <xs.length→a=some ⟨b,o,none⟩)(hn:a.isNone=true):xs=[]:=by
 cases xs with
 |nil=>rfl
 |cons x l=>rw[h 0 (by simp)] at hn;cases hn
theorem apK{v:Value}{xs:List ByteArray}{ro:Nat→Option Obj}(hl:bL ro v 1 pf xs)(hn:xs.length≤1000):eI zT 239 [v] ro [] (fun r Y=>∃L,aD r 1 9 pf xs L∧Y=L):=by
 obtain⟨fC,rj,ri,eV,rfl,tj,lB,mz⟩:=hl
 refine bI av [] [] bB<|zD 8<|jsn 127 (a:=fC) (l:=xs.length) (c:=eV)<|zD 1<|js 4 (fC.isNone) (fun h1=>?_) (fun h1=>?_)
 ·
  refine zD 6<|aJ q0 (zS) [] [] [] (Sub.refl _) ⟨_,_,rfl,rfl,[],by rw[qI lB (by assumption)];exact aD.nil _ _ _,rfl⟩
 refine zD 4<|jn fun b5=>zD 1<|jk (sz:=1) (ps:=[]) (qs:=xs) (enc:=pf) (w:= .slice fC xs.length eV) [0] [] [] (bC (b:=b5) (T:=9)) (fun s he _=>⟨fC,rj,ri,eV,rfl,lB,fun i p hp=>(mz i p hp).ext he⟩) (fun p _=>aj rfl) (by simp<;>omega) (fun v7 L7 iz=>?_)
 rw[List.nil_append] at iz
 obtain⟨Nw,Nu,LI⟩:=iz.form
 subst LI
 refine zD 3<|aJ q0 ((.slice Nw (xs).length Nu)) [] [0] L7 (Sub.refl _) ⟨_,_,rfl,rfl,_,iz,rfl⟩
theorem aNo{f:Nat}{fs:List eR}{c2 c3 c4:Value}{ro:Nat→Option Obj}(hx:bL ro c11 3 oK fs)(hf:ro f=some (.cells ⟨[c0,c1,c2,c3,c4,c5,c6,c7,zI gone,zI new,zI ai,c11,vt]⟩ 116 (0,0)))(hn:fs.length≤7):dL zT 37 [zP f] ro (.int .u8 (IntKind.u8.wrap (dD .u8 1 (fs.length:Int)-1))):=by
 obtain⟨qxa,qxb,qxo,qxc,rfl,qxk,qxh,qxl⟩:=hx
 refine bI av [] [] bB<|zD 10<|jl (b:=f) (off:=0) (m:=13) (vs:=[c0,c1,c2,c3,c4,c5,c6,c7,zI gone,zI new,zI ai,.slice qxa fs.length qxc,vt]) 11 ⟨_,_,_,.inl hf,rfl⟩<|zD 1<|jsh (k:= .u8) (k':= .i64) (a:=1) (b:=(fs.length:Int)) 99 (by omega)<|zD 4<|aJ q0 (.int .u8 (IntKind.u8.wrap ((dD .u8 1 (fs.length:Int))-1))) [] [] [] (Sub.refl _) ⟨_,_,rfl,rfl,rfl,rfl⟩
theorem yb{r:Value}{A B:Prop}(h:(r= .bool true∧A)∨(r= .bool false∧B)):∃c,r= .bool c∧(c=true→A)∧(c=false→B):=by
 rcases h with ⟨rfl,h⟩| ⟨rfl,h⟩
 ·exact⟨true,rfl,fun _=>h,nofun⟩
 exact⟨false,rfl,nofun,fun _=>h⟩
def tZ(w f t:ByteArray)(i:Nat):ByteArray:=w.extract 0 (i:Int).toNat++t++w.extract ((i:Int)+(f.size:Int)).toNat w.size
def pK(w f t:ByteArray)(i:Nat):Option ByteArray:=if sb (w.extract i w.size) f=true∧1≤(tZ w f t i).size∧(tZ w f t i).size≤12 then some (tZ w f t i) else none
def uw(w f t:ByteArray)(k:Nat):List ByteArray:=(List.range k).filterMap (pK w f t)
def Cp(w f t:ByteArray):List ByteArray:=uw w f t (w.size+1)
theorem Bd(w f t:ByteArray)(k:Nat):uw w f t (k+1)=uw w f t k++(pK w f t k).toList:=by
 rw[uw,uw,List.range_succ,List.filterMap_append]
 cases h:pK w f t k<;>simp[h]
theorem abw(w f t:ByteArray)(h:k≤n):∃l,uw w f t n=uw w f t k++l:=by
 induction n with
 |zero=>exact⟨[],by rw[show k=0 by omega];simp⟩
 |succ n ih=>
  by_cases hk:k=n+1
  ·exact⟨[],by rw[hk];simp⟩
  obtain⟨l,hl⟩:=ih (by omega)
  exact⟨l++(pK w f t n).toList,by rw[Bd,hl,List.append_assoc]⟩
theorem N5{w:ByteArray}(hk:k <n)(h:pK w f t k=some x):(uw w f t n)[(uw w f t k).length]?=some x∧(uw w f t (k+1)).length=(uw w f t k).length+1:=by
 obtain⟨l,hl⟩:=abw w f t (k:=k+1) (n:=n) hk
 rw[hl,Bd,h]
 constructor
 ·rw[List.append_assoc,List.getElem?_append_right (Nat.le_refl _)];simp
 simp
theorem UY{w:ByteArray}(h:pK w f t k=none):(uw w f t (k+1)).length=(uw w f t k).length:=by
 rw[Bd,h];simp
abbrev aoj(l:List ByteArray):(Nat→Option Obj)→Nat→List Value→Cells→Prop:=fun _ k vs LL=>∃x,l[k]?=some x∧vs=[.string x]∧LL=[]
theorem wT.ext{w:ByteArray}(h:wT w)(i j:Nat):wT (w.extract i j):=by
 intro b hb
 refine h b ?_
 have:(w.extract i j).data.toList=(w.data.extract i j).toList:=by simp[ByteArray.data_extract]
 rw[this,Array.toList_extract] at hb
 simp only[List.extract_eq_drop_take] at hb
 exact List.mem_of_mem_drop (List.mem_of_mem_take hb)
theorem wT.app{v w:ByteArray}(h:wT v)(k:wT w):wT (v++w):=by
 intro b hb
 have:(v++w).data.toList=v.data.toList++w.data.toList:=by simp[ByteArray.data_append]
 rw[this] at hb
 exact(List.mem_append.1 hb).elim (h b) (k b)
theorem IP{w:ByteArray}{i:Nat}(hw:wT w)(ht:wT t):wT (tZ w f t i):=((hw.ext _ _).app ht).app (hw.ext _ _)
theorem abY{a b:ByteArray}(h:sb a b=true):b.size≤a.size:=by
 unfold sb at h
 simp only[Bool.and_eq_true,decide_eq_true_eq] at h
 omega
def acZ(w:ByteArray):Bool:=decide ((1:Int)≤w.size)&&decide ((w.size:Int)≤12)
theorem RG{w:ByteArray}(h:sb (w.extract (k:Int).toNat w.size) f=false):pK w f t k=none:=if_neg fun x=>by
 have h1:sb (w.extract k w.size) f=false:=h
 rw[h1] at x;cases x.1
theorem Xz{w:ByteArray}(h:acZ (tZ w f t k)=false):pK w f t k=none:=if_neg fun x=>by
 simp only[acZ,Bool.and_eq_false_iff,decide_eq_false_iff_not] at h
 omega
theorem RF{w:ByteArray}(h:sb (w.extract (k:Int).toNat w.size) f=true)(h2:acZ (tZ w f t k)=true):pK w f t k=some (tZ w f t k):=if_pos ⟨h,by
 simp only[acZ,Bool.and_eq_true,decide_eq_true_eq] at h2
 omega⟩
theorem RE{w:ByteArray}(h:w.size≤100∧f.size≤100∧t.size≤100):(tZ w f t k).size≤1000:=by
 simp only[tZ,ByteArray.size_append,ByteArray.size_extract];omega
theorem ai9{w:ByteArray}(hk:k≤w.size)(h:pK w f t k=some (tZ w f t k)):(uw w f t k).length <(Cp w f t).length∧(Cp w f t)[(uw w f t k).length]?=some (tZ w f t k):=by
 have:=(N5 (n:=w.size+1) (by omega) h).1
 exact⟨(List.getElem?_eq_some_iff.1 this).1,this⟩
theorem TJ(w:ByteArray)(a b:Nat):(w.extract a b).size≤w.size:=by simp;omega
theorem agk(w:ByteArray)(i:Nat)(h:i≤w.size):(w.extract i w.size).size=w.size-i:=by simp
theorem ajL{w:ByteArray}{ro:Nat→Option Obj}(g1:ro b1=some (.cells ⟨[.string w]⟩ 291 (0,0)))(g2:ro b2=some (.cells ⟨[.string f]⟩ 9 (0,0)))(g3:ro b3=some (.cells ⟨[.string t]⟩ 9 (0,0)))(hw:wT w)(ht:wT t)(hn:w.size≤100∧f.size≤100∧t.size≤100):ItX zT 281 [] [zP b1,zP b2,zP b3] ro [] (Cp w f t).length (aoj (Cp w f t)) (fun Z=>Z=[]):=by
 intro bl aE Inv Stop hs hy B hB
 replace g1:=hs _ _ g1
 replace g2:=hs _ _ g2
 replace g3:=hs _ _ g3
 refine bI av [.l B] [] bB<|zD 2<|jl (b:=b1) (off:=0) (m:=1) (vs:=[.string w]) 0 ⟨_,_,_,.inl g1,rfl⟩<|zD 1<|ja ((w.size:Int)+1) (by omega)<|zD 3<|eG [1,0,0] [] (fun(zz:Nat×Cells)=>[(0,(.func (.yield bl) #[] #[])),(1,zP b1),(2,zP b2),(3,zP b3),(9,zI ((w.size:Int)+1)),(10,zI (zz.1:Int))]) (fun(zz:Nat×Cells)=>[.l zz.2]) (fun(zz:Nat×Cells)=>zz.1≤w.size+1∧Inv (uw w f t zz.1).length zz.2) (fun(zz:Nat×Cells)=>w.size+1-zz.1) (⟨0,B⟩) ⟨by dsimp only;omega,hB⟩ [0] ?_
 rintro⟨k,B⟩ hI K1 bU rest
 dsimp only at hI
 refine zD 5<|zJ 11 ((k:Int) <((w.size:Int)+1)) (fun h1=>?_) fun h1=>?_
 ·
  refine zD 11 ?_
  have yx:=TJ w (k:Int).toNat w.size
  refine zD 1<|jl (b:=b1) (off:=0) (m:=1) (vs:=[.string w]) 0 ⟨_,_,_,.inl g1,rfl⟩<|zD 1<|jtL (b:=w) (lo:=(k:Int)) (by omega)<|jl (b:=b2) (off:=0) (m:=1) (vs:=[.string f]) 0 ⟨_,_,_,.inl g2,rfl⟩<|jp (vs:=[.string (w.extract (k:Int).toNat w.size),.string f]) [] [] (fun aE hs hZ=>(YJ (by omega)))<|zD 2<|js 18 (!(sb (w.extract (k:Int).toNat w.size) f)) (fun h2=>?_) (fun h2=>?_)
  ·
   try simp only[zB] at h2
   refine zD 3<|ja ((k:Int)+1) (by omega)<|zD 2<|bO bU (⟨k+1,B⟩) ⟨by dsimp only;omega,by dsimp only;rw[UY (RG (by assumption))];exact hI.2⟩ (by dsimp only;omega) [0] (Sub.refl _)
  try simp only[zB] at h2
  refine zD 3 ?_
  have HD:=TJ w 0 (k:Int).toNat
  have ZR:=TJ w ((k:Int)+(f.size:Int)).toNat w.size
  have he4:(w.extract 0 (k:Int).toNat++t).size=_:=ByteArray.size_append
  have hpr:sb (w.extract (k:Int).toNat w.size) f=true:=by assumption
  have QJ:=abY hpr
  rw[agk _ _ (by omega)] at QJ
  refine zD 1<|jl (b:=b1) (off:=0) (m:=1) (vs:=[.string w]) 0 ⟨_,_,_,.inl g1,rfl⟩<|zD 1<|jtH (b:=w) (hi:=(k:Int)) (by omega)<|jl (b:=b3) (off:=0) (m:=1) (vs:=[.string t]) 0 ⟨_,_,_,.inl g3,rfl⟩<|jsa (a:=(w.extract 0 (k:Int).toNat)) (b:=t) 291 (by omega)<|jl (b:=b1) (off:=0) (m:=1) (vs:=[.string w]) 0 ⟨_,_,_,.inl g1,rfl⟩<|zD 1<|jl (b:=b2) (off:=0) (m:=1) (vs:=[.string f]) 0 ⟨_,_,_,.inl g2,rfl⟩<|zD 1<|ja ((k:Int)+(f.size:Int)) (by omega)<|jtL (b:=w) (lo:=((k:Int)+(f.size:Int))) (by omega)<|jsa (a:=((w.extract 0 (k:Int).toNat)++t)) (b:=(w.extract ((k:Int)+(f.size:Int)).toNat w.size)) 291 (by omega)<|zD 5<|jp (vs:=[.string (((w.extract 0 (k:Int).toNat)++t)++(w.extract ((k:Int)+(f.size:Int)).toNat w.size)),zI 1,zI 12]) [] [] (fun aE hs hZ=>(OI (IP (i:=k) hw ht) (RE hn)))<|zD 1<|js 33 (acZ (tZ w f t k)) (fun h3=>?_) (fun h3=>?_)
  ·
   have hry:=RF (t:=t) hpr (by assumption)
   have QI:=ai9 (by omega) hry
   refine zD 2<|jyc [0] (hy (uw w f t k).length _ [] B aE QI.1 ⟨_,QI.2,rfl,rfl⟩ hI.2 (Sub.refl _)) (Sub.refl _) ?_
   intro v4 Y4 hy4
   obtain⟨c4,rfl,hc4,hd4⟩:=yb hy4
   refine zD 3<|js 38 (!c4) (fun h5=>?_) (fun h5=>?_)
   ·
    try simp only[zB] at h5
    refine zD 2<|aJ q0 (.tuple ⟨[]⟩) [] [0] Y4 (Sub.refl _) ⟨_,_,rfl,rfl,[],Y4,rfl,rfl,.inr (hd4 (by simp_all))⟩
   try simp only[zB] at h5
   refine zD 3<|ja ((k:Int)+1) (by omega)<|zD 2<|bO bU (⟨k+1,Y4⟩) ⟨by dsimp only;omega,by dsimp only;rw[(N5 (n:=k+1) (by omega) hry).2];exact hc4 (by assumption)⟩ (by dsimp only;omega) [0] (Sub.refl _)
  refine zD 9<|ja ((k:Int)+1) (by omega)<|zD 2<|bO bU (⟨k+1,B⟩) ⟨by dsimp only;omega,by dsimp only;rw[UY (Xz (by assumption))];exact hI.2⟩ (by dsimp only;omega) [0] (Sub.refl _)
 refine zD 2<|aJ q0 (.tuple ⟨[]⟩) [] [0] B (Sub.refl _) ⟨_,_,rfl,rfl,[],B,rfl,rfl,.inl (by have:=hI.2;rwa[show k=w.size+1 by omega] at this)⟩
def pP(rs:List cP):List (ByteArray×ByteArray):=rs.flatMap fun r=>[(r.f,r.t),(r.t,r.f)]
abbrev eP2(x:ByteArray×ByteArray):List Value:=[.string x.1,.string x.2]
def jA(w:ByteArray)(ps:List (ByteArray×ByteArray)):List ByteArray:=ps.flatMap fun p=>Cp w p.1 p.2
def rP(w:ByteArray)(rs:List cP):List ByteArray:=jA w (pP rs)
theorem I7:∀(rs:List cP),(pP rs).length=2*rs.length
 | []=>rfl
 |r::rs=>by have:=I7 rs;simp only[pP,List.flatMap_cons,List.length_append,List.length_cons,List.length_nil] at this ⊢;omega
theorem Om:∀ {rs:List cP} {k q:Nat} {r:cP} {p:ByteArray×ByteArray},rs[k]?=some r→[(r.f,r.t),(r.t,r.f)][q]?=some p→(pP rs)[2*k+q]?=some p
 | [],_,_,_,_,h,_=>by simp at h
 |r::rs,0,q,_,p,h,h2=>by
  simp only[List.getElem?_cons_zero,Option.some.injEq] at h;subst h
  simp only[pP,List.flatMap_cons,Nat.mul_zero,Nat.zero_add]
  rw[List.getElem?_append_left (by have:=(List.getElem?_eq_some_iff.1 h2).1;exact this)];exact h2
 |r::rs,k+1,q,_,p,h,h2=>by
  have:=Om (rs:=rs) (k:=k) (by simpa using h) h2
  simp only[pP,List.flatMap_cons]
  rw[List.getElem?_append_right (by simp;omega)]
  rw[show 2*(k+1)+q- [(r.f,r.t),(r.t,r.f)].length=2*k+q by simp;omega];exact this
theorem EA{w:ByteArray}{ps:List (ByteArray×ByteArray)}(h:ps[k]?=some p):jA w (ps.take (k+1))=jA w (ps.take k)++Cp w p.1 p.2:=by
 rw[jA,fu h,List.flatMap_append];simp[jA]
theorem aiQ{w:ByteArray}{ps:List (ByteArray×ByteArray)}{j:Nat}(h:ps[k]?=some p) (hx:(Cp w p.1 p.2)[j]?=some x):(jA w (ps.take k)).length+j <(jA w ps).length∧(jA w ps)[(jA w (ps.take k)).length+j]?=some x:=by
 have e:jA w ps=jA w (ps.take (k+1))++jA w (ps.drop (k+1)):=by rw[jA,jA,jA,←List.flatMap_append,List.take_append_drop]
 have hj:=(List.getElem?_eq_some_iff.1 hx).1
 have:(jA w ps)[(jA w (ps.take k)).length+j]?=some x:=by
  rw[e,EA h,List.append_assoc,List.getElem?_append_right (by omega),List.getElem?_append_left (by omega),show (jA w (ps.take k)).length+j-(jA w (ps.take k)).length=j by omega]
  exact hx
 exact⟨(List.getElem?_eq_some_iff.1 this).1,this⟩
theorem ajt{r:cP}{q:Nat}(h:qU r)(hp: [(r.f,r.t),(r.t,r.f)][q]?=some p):wT p.2∧(p.1.size≤100∧p.2.size≤100):=by
 have:=List.mem_of_getElem? hp
 have h1:=h.f1;have h2:=h.t1
 simp only[List.mem_cons,List.not_mem_nil,or_false] at this
 rcases this with rfl|rfl
 ·exact⟨h.tl,by dsimp only;omega,by dsimp only;omega⟩
 exact⟨h.fl,by dsimp only;omega,by dsimp only;omega⟩
theorem X7{w:ByteArray}{ro:Nat→Option Obj}:eI zT 264 [.string w,.string f,.string t] ro [] (fun r Y=>∃b3 b4 b5,r= .func (.func 281) ⟨[]⟩ ⟨[zP b3,zP b4,zP b5]⟩∧Y=[(b3,.cells ⟨[.string w]⟩ 291 (0,0)),(b4,.cells ⟨[.string f]⟩ 9 (0,0)),(b5,.cells ⟨[.string t]⟩ 9 (0,0))]):=by
 refine bI av [] [] bB<|zD 2<|jn fun b3=>jn fun b4=>jn fun b5=>zD 8<|aJ q0 (.func (.func 281) ⟨[]⟩ ⟨[zP b3,zP b4,zP b5]⟩) [] [2,1,0] ((b3,.cells ⟨[.string w]⟩ 291 (0,0))::((b4,.cells ⟨[.string f]⟩ 9 (0,0))::[(b5,.cells ⟨[.string t]⟩ 9 (0,0))])) (Sub.refl _) ⟨_,_,rfl,rfl,_,_,_,rfl,rfl⟩
theorem aqK{w:ByteArray}{ro:Nat→Option Obj}(hl:bL ro vl 2 iB rs):eI zT 240 [.string w,vl] ro [] (fun r Y=>∃b2 b3,r= .func (.func 263) ⟨[]⟩ ⟨[zP b3,zP b2]⟩∧Y=[(b2,.cells ⟨[.string w]⟩ 291 (0,0)),(b3,.cells ⟨[vl]⟩ 34 (0,0))]):=by
 obtain⟨fC,rj,ri,eV,rfl,tj,lB,mz⟩:=hl
 refine bI av [] [] bB<|zD 2<|jn fun b2=>jn fun b3=>zD 8<|aJ q0 (.func (.func 263) ⟨[]⟩ ⟨[zP b3,zP b2]⟩) [] [1,0] ((b2,.cells ⟨[.string w]⟩ 291 (0,0))::[(b3,.cells ⟨[.slice fC rs.length eV]⟩ 34 (0,0))]) (Sub.refl _) ⟨_,_,rfl,rfl,_,_,rfl,rfl⟩
theorem ajK{w:ByteArray}{ro:Nat→Option Obj}(g1:ro b1=some (.cells ⟨[vl]⟩ 34 (0,0)))(hl:bL ro vl 2 iB rs)(hR:∀r∈rs,qU r)(g2:ro b2=some (.cells ⟨[.string w]⟩ 291 (0,0)))(hw:wT w)(hn:w.size≤100)(hq:rs.length≤100):ItX zT 263 [] [zP b1,zP b2] ro [] (rP w rs).length (aoj (rP w rs)) (fun Z=>Z=[]):=by
 intro bl aE Inv Stop hs hy B hB
 replace g1:=hs _ _ g1
 replace g2:=hs _ _ g2
 replace hl:=hl.up hs
 obtain⟨fC,rj,ri,eV,rfl,tj,lB,mz⟩:=hl
 refine akm av [.l B] [] bB<|zD 2<|jn fun b3=>jf [0] [(b3,.cells ⟨[(.func (.yield bl) #[] #[])]⟩ 358 (0,0))] fun AR cy ju=>zD 3<|jl (b:=b1) (off:=0) (m:=1) (vs:=[.slice fC rs.length eV]) 0 ⟨_,_,_,.inl (cy _ _ g1),rfl⟩<|zD 4<|oU<|azF [1,1,0,0] [] (fun(zz:Nat×(List Nat)×Cells)=>[(2,zP b2),(3,zP b3),(9,.slice fC rs.length eV),(10,zI (rs.length:Int)),(11,zI (zz.1:Int))]) (fun(zz:Nat×(List Nat)×Cells)=>[.l (mk zz.2.1),.l zz.2.2]) (fun(zz:Nat×(List Nat)×Cells)=>(zz.2.1.map ez)) (fun(zz:Nat×(List Nat)×Cells)=>zz.1≤rs.length∧Inv (jA w ((pP rs).take (2*zz.1))).length zz.2.2) (fun(zz:Nat×(List Nat)×Cells)=>rs.length-zz.1) (⟨0,[],B⟩) ⟨by dsimp only;omega,hB⟩ [0,1] ?_
 rintro⟨k,tR,B⟩ hI K1 bU rest
 dsimp only at hI
 refine zD 5<|zJ 12 ((k:Int) <(rs.length:Int)) (fun h4=>?_) fun h4=>?_
 ·
  refine zD 6 ?_
  obtain⟨ZD,akB⟩:=zG rs k
  refine iE eV 2 lB akB<|jl 0 ((mz _ _ akB).ext (tM cy))<|jn fun b5=>jd 14 [0,0,0,0,0]<|jn fun dW=>zD 4<|azF [1,1,0,0,1,1,0,0,1,1,0,0] [K1] (fun(zz:Nat×(List Nat)×Cells)=>[(2,zP b2),(3,zP b3),(9,.slice fC rs.length eV),(10,zI (rs.length:Int)),(11,zI (k:Int)),(25,.slice (some ⟨dW,0,none⟩) 2 2),(26,zI 2),(27,zI (zz.1:Int))]) (fun(zz:Nat×(List Nat)×Cells)=>[.l (mk zz.2.1),.l zz.2.2,.b dW (.cells ⟨[.string ZD.f,.string ZD.t,.string ZD.t,.string ZD.f]⟩ 359 (0,0))]) (fun(zz:Nat×(List Nat)×Cells)=>(zz.2.1.map ez)) (fun(zz:Nat×(List Nat)×Cells)=>zz.1≤2∧Inv (jA w ((pP rs).take (2*k+zz.1))).length zz.2.2) (fun(zz:Nat×(List Nat)×Cells)=>2-zz.1) (⟨0,tR,B⟩) ⟨by dsimp only;omega,hI.2⟩ [2,3,0] ?_
  rintro⟨q,tR,B⟩ hJ K2 lL rest
  dsimp only at hJ
  refine zD 5<|zJ 28 ((q:Int) <2) (fun h5=>?_) fun h5=>?_
  ·
   refine zD 6 ?_
   obtain⟨C2,zx⟩:=zG ([(ZD.f,ZD.t),(ZD.t,ZD.f)]:List _) q (show q <2 from by omega)
   refine iE (a:=(some ⟨dW,0,none⟩)) (b:=dW) (off:=0) 2 2 (fun _ _=>rfl) zx<|oQ (m:=2) 0 [2] [(dW,.cells ⟨([(ZD.f,ZD.t),(ZD.t,ZD.f)].map eP2).flatten⟩ 359 (0,0))] (fun s _ hZ=>wz (hZ _ (.head _)) (by intro p hp;rfl) zx) ?_
   refine jn fun b7=>jd 3 [0] ?_
   have hpx:=Om akB zx
   have hpk:=ajt (hR _ (List.mem_of_getElem? akB)) zx
   refine zD 1<|jl (b:=b2) (off:=0) (m:=1) (vs:=[.string w]) 0 ⟨_,_,_,.inl (cy _ _ g2),rfl⟩<|jd 4 [0,0]<|jc (vs:=[.string w,.string C2.1,.string C2.2]) [] (X7) ?_
   rintro _ _ ⟨anh,ang,anf,rfl,rfl⟩
   refine jg 0 [.b anh (.cells ⟨[.string w]⟩ 291 (0,0)),.b ang (.cells ⟨[.string C2.1]⟩ 9 (0,0)),.b anf (.cells ⟨[.string C2.2]⟩ 9 (0,0))]<|jf [0,1,2] ((anh,.cells ⟨[.string w]⟩ 291 (0,0))::((ang,.cells ⟨[.string C2.1]⟩ 9 (0,0))::[(anf,.cells ⟨[.string C2.2]⟩ 9 (0,0))])) fun ro8 yl hk7=>zD 2<|jrf [] (ajL (hk7 _ (.head _)) (hk7 _ (.tail _ (.head _))) (hk7 _ (.tail _ (.tail _ (.head _)))) hw hpk.1 ⟨hn,hpk.2⟩) (by rintro _ _ _ _ ⟨_,_,rfl,_⟩;rfl) (fun(zz:Cells)=>[.l zz]) (fun kk=>(fun(zz:Cells)=>Inv ((jA w ((pP rs).take (2*k+q))).length+kk) zz)) (fun jump=>(fun(zz:Cells)=>jump= .ret∧Stop zz)) B (show Inv (_+0) _ from hJ.2) [2] ?_ ?_ ?_
   ·
    rintro bl9 bd9 kk9 vs9 LL9 B ro9 hk9 atb hL hs9
    obtain⟨x9,ZL,rfl,rfl⟩:=atb
    have hu:=aiQ hpx ZL
    refine zD 3<|jbg<|zD 3<|jl (b:=b3) (off:=0) (m:=1) (vs:=[(.func (.yield bl) #[] #[])]) 0 ⟨_,_,_,.inl (hs9 _ _ (yl _ _ (ju _ (.head _)))),rfl⟩<|zD 1<|jyc [1] (hy ((jA w ((pP rs).take (2*k+q))).length+kk9) _ [] B ro9 hu.1 ⟨_,hu.2,rfl,rfl⟩ hL ((cy.trans yl).trans hs9)) (Sub.refl _) ?_
    intro v10 Z3 aN4
    obtain⟨c10,rfl,atB,atu⟩:=yb aN4
    refine zD 2<|js 41 (!c10) (fun YR=>?_) (fun YR=>?_)
    ·
     try simp only[zB] at YR
     refine zD 2<|jys XK (Sub.refl _) .ret Z3 ⟨rfl,atu (by simp_all)⟩ [1,0]
    try simp only[zB] at YR
    refine zD 2<|jyn XK (Sub.refl _) Z3 (atB (by simp_all)) [1,0]
   ·
    rintro bd9 B Z9 hL hZ9
    subst hZ9
    refine zD 1<|ja ((q:Int)+1) (by omega)<|zD 2<|jnD lL (⟨q+1,(bd9::tR),B⟩) ⟨by dsimp only;omega,by dsimp only;rw[←Nat.add_assoc,EA hpx,List.length_append];exact hL⟩ (by dsimp only;omega) [[0,4],[2],[5]] yl
   rintro bd9 B Z9 jump hS hZ9
   obtain⟨rfl,hS⟩:=hS
   subst hZ9
   exact jrM qm0.a.w.w.a.m (.tuple ⟨[]⟩) [0,4] [] [1] B (cy.trans yl) ⟨[],B,rfl,rfl,.inr hS⟩
  refine zD 3<|ja ((k:Int)+1) (by omega)<|zD 2<|jnD bU (⟨k+1,tR,B⟩) ⟨by dsimp only;omega,by have:=hJ.2;dsimp only;rwa[show 2*(k+1)=2*k+q by omega]⟩ (by dsimp only;omega) [[0],[1]] (Sub.refl _)
 refine zD 2<|jrM qm0.a.w (.tuple ⟨[]⟩) [0] [] [0] B cy ⟨[],B,rfl,rfl,.inl (by have:=hI.2;rwa[show k=rs.length by omega,List.take_of_length_le (by rw[I7];exact Nat.le_refl _)] at this)⟩
instance:LawfulBEq ByteArray where
 eq_of_beq:=fun h=>by rw[MG] at h;exact of_decide_eq_true h
 rfl:=fun {a}=>by rw[MG];exact decide_eq_true rfl
def dd(l:List ByteArray):List ByteArray:=l.foldl (fun a x=>if x∈a then a else a++[x]) []
theorem Ms(l:List ByteArray)(x:ByteArray):dd (l++[x])=if x∈dd l then dd l else dd l++[x]:=by rw[dd,List.foldl_append];rfl
theorem auF(a:List ByteArray):∀b:List ByteArray,∃r,dd (a++b)=dd a++r:=by
 intro b
 induction b generalizing a with
 |nil=>exact⟨[],by simp⟩
 |cons x b ih=>
  obtain⟨r,hr⟩:=ih (a++[x])
  rw[show a++x::b=(a++[x])++b by simp,hr,Ms]
  split
  ·exact⟨r,rfl⟩
  exact⟨x::r,by simp⟩
abbrev kvS:ByteArray→Value:=fun a=> .string a
def mF(m:List ByteArray):List (ByteArray×Value):=m.map fun x=>(x,.bool true)
theorem Tz(k:ByteArray):∀(m:List ByteArray) (i:Nat),(rI k (mF m) i).map (·.2)=if k∈m then some (.bool true) else none
 | [],_=>rfl
 |x::m,i=>by
  simp only[mF,List.map_cons,rI]
  by_cases h:k=x
  ·simp[h]
  have:=Tz k m (i+1)
  simp only[mF] at this
  simp[h,this]
theorem azi{k:ByteArray}{m:List ByteArray}:OU (.bool false) false k (mF m)= .bool (decide (k∈m)):=by
 simp only[OU,lkM,Tz]
 by_cases h:k∈m<;>simp[h]
theorem apj{k:ByteArray}{m:List ByteArray}(h:decide (k∈m)=false):mf k (.bool true) (mF m)=mF (m++[k]):=by
 have h:=of_decide_eq_false h
 have:=Tz k m 0
 rw[if_neg h] at this
 simp only[mf]
 cases hf:rI k (mF m) 0 with
 |none=>simp[mF]
 |some x=>rw[hf] at this;cases this
theorem agI(hx:l[k]?=some x) (h:decide (x∈dd (l.take k))=true):dd (l.take (k+1))=dd (l.take k):=by
 rw[fu hx,Ms,if_pos (of_decide_eq_true h)]
theorem TS(hx:l[k]?=some x) (h:decide (x∈dd (l.take k))=false):dd (l.take (k+1))=dd (l.take k)++[x]:=by
 rw[fu hx,Ms,if_neg (of_decide_eq_false h)]
theorem auG(hx:l[k]?=some x) (h:decide (x∈dd (l.take k))=false):∃r,dd l=dd (l.take k)++[x]++r:=by
 obtain⟨r,hr⟩:=auF (l.take (k+1)) (l.drop (k+1))
 rw[List.take_append_drop,TS hx h] at hr
 exact⟨r,hr⟩
def Ni(rs:List cP)(to:ByteArray):Nat→ByteArray→List ByteArray→List (List ByteArray)
 |0,w,b=>if cQ w to=true then [b++[w]] else []
 |n+1,w,b=>(dd (rP w rs)).flatMap fun s=>Ni rs to n s (b++[w])
theorem Mz{to:ByteArray}:∀ {n:Nat} {w:ByteArray} {b x:List ByteArray},x∈Ni rs to n w b→x.length=b.length+n+1
 |0,w,b,x,h=>by
  simp only[Ni] at h
  split at h
  ·rw[List.mem_singleton] at h;subst h;simp
  cases h
 |n+1,w,b,x,h=>by
  simp only[Ni,List.mem_flatMap] at h
  obtain⟨s,_,h2⟩:=h
  have:=Mz h2
  simp at this;omega
theorem aiP{w:ByteArray}(hR:∀r∈rs,qU r)(hw:wT w)(h:x∈rP w rs):wT x∧x.size≤12:=by
 simp only[rP,jA,pP,List.mem_flatMap,Cp,uw,List.mem_filterMap,List.mem_range] at h
 obtain⟨p,⟨r,hr,hp⟩,i,_,hi⟩:=h
 have ht:wT p.2:=by
  simp only[List.mem_cons,List.not_mem_nil,or_false] at hp
  rcases hp with rfl|rfl
  ·exact(hR r hr).tl
  exact(hR r hr).fl
 simp only[pK] at hi
 split at hi
 ·rename_i hc
  cases hi
  exact⟨IP hw ht,hc.2.2⟩
 cases hi
abbrev alF(L:List (List ByteArray)):(Nat→Option Obj)→Nat→List Value→Cells→Prop:=fun _ k vs LL=>∃x v,L[k]?=some x∧vs=[v]∧aD v 1 9 pf x LL
structure ahC(ro:Nat→Option Obj)(bl:Nat)(rs:List cP)(to:ByteArray)(many bm bt bE br bg:Nat)(vl:Value):Prop where
 m:ro bm=some (.cells ⟨[zI (many:Int)]⟩ 3 (0,0))
 t:ro bt=some (.cells ⟨[.string to]⟩ 291 (0,0))
 y:ro bE=some (.cells ⟨[.func (.yield bl) #[] #[]]⟩ 325 (0,0))
 r:ro br=some (.cells ⟨[vl]⟩ 34 (0,0))
 g:ro bg=some (.cells ⟨[.func (.func 238) ⟨[]⟩ ⟨[zP bm,zP bt,zP bE,zP br,zP bg]⟩]⟩ 326 (0,0))
 l:bL ro vl 2 iB rs
theorem ahC.up{ro aK:Nat→Option Obj}{to:ByteArray}(h:ahC ro bl rs to many bm bt bE br bg vl)(hs:Sub ro aK):ahC aK bl rs to many bm bt bE br bg vl:=
 ⟨hs _ _ h.m,hs _ _ h.t,hs _ _ h.y,hs _ _ h.r,hs _ _ h.g,h.l.up hs⟩
def aoJ(bl:Nat)(rs:List cP)(to:ByteArray)(many bm bt bE br bg:Nat)(vl:Value)(L:List (List ByteArray))(Inv:Nat→Cells→Prop)(Stop:Cells→Prop)(n:Nat):Prop:=
 ∀(ro:Nat→Option Obj) (w:ByteArray) (b:List ByteArray) (v:Value) (p:Nat) (B:Cells),ahC ro bl rs to many bm bt bE br bg vl→bL ro v 1 pf b→b.length+n=many→wT w→w.size≤100→Part L p (Ni rs to n w b)→Inv p B→Zx zT bl ro L.length (alF L) Inv Stop→
  eI zT 238 [.string w,v,zP bm,zP bt,zP bE,zP br,zP bg] ro B (fun r Y=>∃c,r= .bool c∧(c=true→Inv (p+(Ni rs to n w b).length) Y)∧(c=false→Stop Y))
theorem aqM{w:ByteArray}{b:List ByteArray}{v:Value}{p:Nat}{B:Cells}{to:ByteArray}{L:List (List ByteArray)}{Inv:Nat→Cells→Prop}{ro:Nat→Option Obj}(ih:∀m,m <n→aoJ bl rs to many bm bt bE br bg vl L Inv Stop m)(hR:∀r∈rs,qU r)(hq:rs.length≤100)(VZ:many≤100)(PA:ahC ro bl rs to many bm bt bE br bg vl)(hb:bL ro v 1 pf b)(hbn:b.length+n=many)(hw:wT w)(ry:w.size≤100)(hP:Part L p (Ni rs to n w b))(hB:Inv p B)(hy:Zx zT bl ro L.length (alF L) Inv Stop):eI zT 238 [.string w,v,zP bm,zP bt,zP bE,zP br,zP bg] ro B (fun r Y=>∃c,r= .bool c∧(c=true→Inv (p+(Ni rs to n w b).length) Y)∧(c=false→Stop Y)):=by
 obtain⟨gm,gt,gy,gl,gg,hl⟩:=id PA
 obtain⟨fC,rj,ri,eV,rfl,tj,lB,mz⟩:=hl
 obtain⟨ayl,aL4,aL0,ayk,rfl,aL2,aL3,aL1⟩:=hb
 refine akm av [.l B] [] bB<|zD 2<|jn fun b9=>zD 4<|jc (vs:=[.slice ayl b.length ayk]) [] (apK (show bL _ _ _ _ _ from ⟨ayl,aL4,aL0,ayk,rfl,aL2,aL3,aL1⟩) (by first|omega| (simp only[List.length_set,List.length_append,List.length_cons,List.length_nil];omega))) ?_
 rintro v14 L14 ⟨_,SU,rfl⟩
 refine zD 1<|jn fun b16=>jk (sz:=1) (ps:=b) (qs:=[w]) (enc:=pf) (w:= .slice (some ⟨b16,0,none⟩) 1 1) [1] [0] [(b16,.cells ⟨([w].map pf).flatten⟩ 9 (0,0))] (SU) (fun s _ hZ=>cg [w] (hZ _ (.head _)) (by intro p hp;rfl)) (fun p _=>aj rfl) (by simp only[List.length_cons,List.length_nil];omega) (fun v17 L17 SS=>?_)
 obtain⟨wX,wW,Ic⟩:=SS.form
 subst Ic
 refine jn fun rJ=>jd 7 [0,0]<|jl (b:=bm) (off:=0) (m:=1) (vs:=[zI (many:Int)]) 0 ⟨_,_,_,.inl gm,rfl⟩<|zD 2<|zJ 21 (((b++[w]).length:Int)>(many:Int)) (fun h1=>?_) fun h1=>?_
 ·
  refine zD 2 ?_
  obtain rfl:n=0:=by simp only[List.length_append,List.length_cons,List.length_nil] at*;omega
  refine zD 2<|jl (b:=bt) (off:=0) (m:=1) (vs:=[.string to]) 0 ⟨_,_,_,.inl gt,rfl⟩<|zD 2<|js 25 (!(cQ w to)) (fun h2=>?_) (fun h2=>?_)
  ·
   have mr:=h2
   try simp only[zB] at mr
   refine jd 7 [3]<|jrM qm0 (.bool true) [] [3] [4] B (Sub.refl _) ⟨_,rfl,(fun _=>by rw[show Ni rs to 0 w b=[] from if_neg (by simp_all)];exact hB),nofun⟩
  have mr:=h2
  try simp only[zB] at mr
  have aeK:Ni rs to 0 w b=[b++[w]]:=if_pos (by simp_all)
  have ZQ:=Part.get (i:=0) (x:=b++[w]) hP (by rw[aeK];rfl)
  refine jl (b:=bE) (off:=0) (m:=1) (vs:=[(.func (.yield bl) #[] #[])]) 0 ⟨_,_,_,.inl gy,rfl⟩<|jd 1 [0]<|jyc [1,4] (hy p [(.slice wX ((b++[w])).length wW)] L17 B ro ZQ.1 ⟨_,_,ZQ.2,rfl,SS⟩ hB (Sub.refl _)) (Sub.refl _) ?_
  intro v28 Y28 aN2
  obtain⟨c28,rfl,aQG,aQu⟩:=yb aN2
  refine jd 4 [3]<|jrM qm0 (.bool c28) [] [3] [0] Y28 (Sub.refl _) ⟨_,rfl,(fun h=>by rw[aeK];exact aQG h),aQu⟩
 refine zD 3 ?_
 obtain⟨m,rfl⟩:∃m,n=m+1:=⟨n-1,by simp only[List.length_append,List.length_cons,List.length_nil] at*;omega⟩
 refine zD 1<|jmk kvS fun r30 L30 aAR=>jn fun Q0=>jd 5 [0]<|jf [2,0,3] ((rJ,.cells ⟨[(.slice wX ((b++[w])).length wW)]⟩ 127 (0,0))::((Q0,.cells ⟨[(.map (some r30))]⟩ 328 (0,0))::L17)) (fun ro5 Ht hk4=>?_)
 have uL:=SS.lq hk4.tail.tail
 replace PA:=PA.up Ht
 replace hy:=hy.up Ht
 refine zD 1<|jl (b:=br) (off:=0) (m:=1) (vs:=[.slice fC rs.length eV]) 0 ⟨_,_,_,.inl (Ht _ _ gl),rfl⟩<|jc (vs:=[.string w,.slice fC rs.length eV]) [] (aqK ((show bL _ _ _ _ _ from ⟨fC,rj,ri,eV,rfl,tj,lB,mz⟩).up Ht)) ?_
 rintro _ _ ⟨anj,ani,rfl,rfl⟩
 refine jg 0 [.b anj (.cells ⟨[.string w]⟩ 291 (0,0)),.b ani (.cells ⟨[.slice fC rs.length eV]⟩ 34 (0,0))]<|jf [0,1] ((anj,.cells ⟨[.string w]⟩ 291 (0,0))::[(ani,.cells ⟨[.slice fC rs.length eV]⟩ 34 (0,0))]) fun ro8 yl hk7=>zD 2<|jrf [] (ajK (hk7 _ (.tail _ (.head _))) (PA.l.up yl) hR (hk7 _ (.head _)) hw ry hq) (by rintro _ _ _ _ ⟨_,_,rfl,_⟩;rfl) (fun(zz:Bool×Cells×Cells)=>[.b b9 (.cells ⟨[.bool zz.1]⟩ 4 (0,0)),.l zz.2.1,.l zz.2.2]) (fun kk=>(fun(zz:Bool×Cells×Cells)=>Inv (p+((dd ((rP w rs).take kk)).flatMap fun s=>Ni rs to m s (b++[w])).length) zz.2.2∧jO r30 kvS (mF (dd ((rP w rs).take kk))) zz.2.1)) (fun jump=>(fun(zz:Bool×Cells×Cells)=>jump= .ret∧(zz.1=false∧Stop zz.2.2))) (⟨false,L30,B⟩) ⟨hB,aAR⟩ [2,0,3] ?_ ?_ ?_
 ·
  rintro bl9 bd9 kk9 vs9 LL9 ⟨rv,Lm,B⟩ ro9 hk9 atb hL hs9
  obtain⟨x9,ZL,rfl,rfl⟩:=atb
  have hue:=aiP hR hw (List.mem_of_getElem? ZL)
  refine zD 3<|jbg<|zD 4<|jl (b:=Q0) (off:=0) (m:=1) (vs:=[(.map (some r30))]) 0 ⟨_,_,_,.inl (hs9 _ _ (yl _ _ (hk4 _ (.tail _ (.head _))))),rfl⟩<|zD 1<|jlu (kv:=kvS) (F:=(mF (dd ((rP w rs).take kk9)))) (r:=r30) (K:=291) x9 (.bool false) false [2] Lm (Vz (T:=291) (by kernel_rfl)) (fun s _ hZ=>hL.2.has hZ)<|jw 37 (.bool (decide (x9∈(dd ((rP w rs).take kk9))))) azi<|zD 1<|js 37 (decide (x9∈(dd ((rP w rs).take kk9)))) (fun ZZ=>?_) (fun ZZ=>?_)
  ·
   refine zD 2<|jyn XK (Sub.refl _) ⟨rv,Lm,B⟩ ⟨by rw[agI ZL (by assumption)];exact hL.1,by rw[agI ZL (by assumption)];exact hL.2⟩ [0,1,2,3]
  have sB:decide (x9∈dd ((rP w rs).take kk9))=false:=by assumption
  obtain⟨rr,hrr⟩:=auG ZL sB
  have aAp:=Part.flat (G:=fun s=>Ni rs to m s (b++[w])) hP hrr
  refine zD 4<|jl (b:=Q0) (off:=0) (m:=1) (vs:=[(.map (some r30))]) 0 ⟨_,_,_,.inl (hs9 _ _ (yl _ _ (hk4 _ (.tail _ (.head _))))),rfl⟩<|zD 1<|jmu (kv:=kvS) (F:=(mF (dd ((rP w rs).take kk9)))) (r:=r30) (K:=291) 2 x9 (.bool true) (Vz (T:=291) (by kernel_rfl)) hL.2 fun aF1 aew=>zD 3<|jl (b:=bg) (off:=0) (m:=1) (vs:=[.func (.func 238) ⟨[]⟩ ⟨[zP bm,zP bt,zP bE,zP br,zP bg]⟩]) 0 ⟨_,_,_,.inl (hs9 _ _ (yl _ _ (Ht _ _ gg))),rfl⟩<|zD 1<|jl (b:=rJ) (off:=0) (m:=1) (vs:=[(.slice wX ((b++[w])).length wW)]) 0 ⟨_,_,_,.inl (hs9 _ _ (yl _ _ (hk4 _ (.head _)))),rfl⟩<|jc (vs:=[.string x9,(.slice wX ((b++[w])).length wW),zP bm,zP bt,zP bE,zP br,zP bg]) [3] (ih m (by omega) _ _ _ _ (p+((dd ((rP w rs).take kk9)).flatMap fun s=>Ni rs to m s (b++[w])).length) _ (PA.up (yl.trans hs9)) (uL.up (yl.trans hs9)) (by simp only[List.length_append,List.length_cons,List.length_nil];omega) hue.1 (by omega) aAp hL.1 (hy.up (yl.trans hs9))) ?_
  rintro _ Y43 ⟨c43,rfl,aQD,aQr⟩
  refine zD 2<|js 44 (!c43) (fun HH=>?_) (fun HH=>?_)
  ·
   try simp only[zB] at HH
   refine jd 6 [3]<|jys XK (Sub.refl _) .ret ⟨false,aF1,Y43⟩ ⟨rfl,rfl,aQr (by simp_all)⟩ [2,3,1,0]
  try simp only[zB] at HH
  refine zD 2<|jyn XK (Sub.refl _) ⟨rv,aF1,Y43⟩ ⟨by rw[TS ZL sB,List.flatMap_append,List.length_append,←Nat.add_assoc];have:=aQD (by simp_all);simpa using this,by rw[TS ZL sB,←apj sB];exact aew⟩ [2,3,1,0]
 ·
  rintro bd9 ⟨rv,Lm,B⟩ Z9 hL hZ9
  subst hZ9
  refine jd 5 [2]<|jrM qm0.a.a.m (.bool true) [0] [1] [3] B (Ht.trans yl) ⟨_,rfl,(fun _=>by have:=hL.1;rwa[List.take_of_length_le (Nat.le_refl _)] at this),nofun⟩
 rintro bd9 ⟨rv,Lm,B⟩ Z9 jump hS hZ9
 obtain⟨rfl,hS⟩:=hS
 obtain⟨rfl,hS⟩:=hS
 subst hZ9
 exact jrM qm0.a.a.m (.bool false) [0] [1] [3] B (Ht.trans yl) ⟨_,rfl,nofun,fun _=>hS⟩
theorem azb{to:ByteArray}{L:List (List ByteArray)}{Inv:Nat→Cells→Prop}(hR:∀r∈rs,qU r)(hq:rs.length≤100)(VZ:many≤100):∀n,aoJ bl rs to many bm bt bE br bg vl L Inv Stop n:=by
 intro n
 induction n using Nat.strongRecOn with
 |_ n ih=>exact fun ro w b v p B hc hb hbn hw ry hP hB hy=>aqM ih hR hq VZ hc hb hbn hw ry hP hB hy
theorem X9{w to:ByteArray}{ro:Nat→Option Obj}(g1:ro b1=some (.cells ⟨[zI (many:Int)]⟩ 3 (0,0)))(g2:ro b2=some (.cells ⟨[.string to]⟩ 291 (0,0)))(g3:ro b3=some (.cells ⟨[vl]⟩ 34 (0,0)))(g4:ro b4=some (.cells ⟨[.string w]⟩ 291 (0,0)))(hl:bL ro vl 2 iB rs)(hR:∀r∈rs,qU r)(hw:wT w)(ry:w.size≤100)(hq:rs.length≤100)(VZ:many≤100):ItX zT 237 [] [zP b1,zP b2,zP b3,zP b4] ro [] (Ni rs to many w []).length (alF (Ni rs to many w [])) (fun Z=>Z=[]):=by
 intro bl aE Inv Stop hs hy B hB
 replace g1:=hs _ _ g1
 replace g2:=hs _ _ g2
 replace g3:=hs _ _ g3
 replace g4:=hs _ _ g4
 replace hl:=hl.up hs
 have hlr:=hl
 obtain⟨fC,rj,ri,eV,rfl,tj,lB,mz⟩:=hl
 refine bI av [.l B] [] bB<|zD 2<|jn fun b5=>zD 3<|jn fun b6=>jd 8 [0,0]<|jl (b:=b4) (off:=0) (m:=1) (vs:=[.string w]) 0 ⟨_,_,_,.inl g4,rfl⟩<|jf [1,0] ((b5,.cells ⟨[(.func (.yield bl) #[] #[])]⟩ 325 (0,0))::[(b6,.cells ⟨[.func (.func 238) ⟨[]⟩ ⟨[zP b1,zP b2,zP b5,zP b3,zP b6]⟩]⟩ 326 (0,0))]) fun AR cy ju=>jc (vs:=[.string w,zS,zP b1,zP b2,zP b5,zP b3,zP b6]) [0] (azb hR hq VZ many _ _ _ _ 0 _ ⟨cy _ _ g1,cy _ _ g2,ju _ (.head _),cy _ _ g3,ju _ (.tail _ (.head _)),hlr.up cy⟩ (bL.nil _ _ _ _ _) (by simp) hw ry ⟨[],[],by simp,rfl⟩ hB (Zx.up hy cy)) ?_
 rintro _ Z3 ⟨c10,rfl,atB,atu⟩
 refine zD 1<|aJ q0.a (.tuple ⟨[]⟩) [] [0] Z3 cy ⟨_,_,rfl,rfl,[],Z3,rfl,rfl,by cases c10 with|true=>exact .inl (by simpa using atB rfl)|false=>exact .inr (atu rfl)⟩
theorem acD{w to:ByteArray}{many:Int}{ro:Nat→Option Obj}(hl:bL ro vl 2 iB rs):eI zT 219 [.string w,vl,.string to,zI many] ro [] (fun r Y=>∃b4 b5 b6 b7,r= .func (.func 237) ⟨[]⟩ ⟨[zP b7,zP b6,zP b5,zP b4]⟩∧Y=[(b4,.cells ⟨[.string w]⟩ 291 (0,0)),(b5,.cells ⟨[vl]⟩ 34 (0,0)),(b6,.cells ⟨[.string to]⟩ 291 (0,0)),(b7,.cells ⟨[zI many]⟩ 3 (0,0))]):=by
 obtain⟨fC,rj,ri,eV,rfl,tj,lB,mz⟩:=hl
 refine bI av [] [] bB<|zD 2<|jn fun b4=>jn fun b5=>jn fun b6=>jn fun b7=>zD 8<|aJ q0 (.func (.func 237) ⟨[]⟩ ⟨[zP b7,zP b6,zP b5,zP b4]⟩) [] [3,2,1,0] ((b4,.cells ⟨[.string w]⟩ 291 (0,0))::((b5,.cells ⟨[.slice fC rs.length eV]⟩ 34 (0,0))::((b6,.cells ⟨[.string to]⟩ 291 (0,0))::[(b7,.cells ⟨[zI many]⟩ 3 (0,0))]))) (Sub.refl _) ⟨_,_,rfl,rfl,_,_,_,_,rfl,rfl⟩
theorem aqN{L:List (List ByteArray)}{ro:Nat→Option Obj}(hit:ItX zT 237 [] [zP b1,zP b2,zP b3,zP b4] ro [] L.length (alF L) (fun Z=>Z=[]))(hL:∀x∈L,x.length≤1000):eI zT 218 [.func (.func 237) ⟨[]⟩ ⟨[zP b1,zP b2,zP b3,zP b4]⟩,.func (.func 220) ⟨[]⟩ ⟨[]⟩] ro [] (fun r Y=>∃v,r= .tuple ⟨[v,.bool (decide (0 <L.length))]⟩∧∃ps,aD v 1 9 pf ps Y∧(0 <L.length→ps∈L)):=by
 refine akm av [] [] bB<|zD 2<|jn fun b3=>zD 2<|jf [0] [(b3,.cells ⟨[.func (.func 220) ⟨[]⟩ ⟨[]⟩]⟩ 317 (0,0))] fun AR cy ju=>zD 3<|jn fun b6=>zD 3<|jn fun b7=>jd 8 [0]<|oU<|jrf [] (hit.up cy) (by rintro _ _ _ _ ⟨_,_,_,rfl,_⟩;rfl) (fun(zz:Value×(List ByteArray)×Cells×Bool)=>[.b b6 (.cells ⟨[zz.1]⟩ 127 (0,0)),.b b7 (.cells ⟨[.bool zz.2.2.2]⟩ 4 (0,0)),.l zz.2.2.1]) (fun kk=>(fun(zz:Value×(List ByteArray)×Cells×Bool)=>aD zz.1 1 9 pf zz.2.1 zz.2.2.1∧zz.2.2.2=decide (0 <kk)∧(0 <kk→zz.2.1∈L)∧zz.2.1.length≤1000)) (fun jump=>(fun(zz:Value×(List ByteArray)×Cells×Bool)=>False)) (⟨zS,[],[],false⟩) ⟨aD.nil _ _ _,rfl,nofun,by simp⟩ [2,1,0] ?_ ?_ ?_
 ·
  rintro bl4 bd4 kk4 vs4 LL4 ⟨v,ps,Lb,sm⟩ ro4 hk4 atc hI kN
  obtain⟨x4,v4,hx4,rfl,ho4⟩:=atc
  have hxl:=hL _ (List.mem_of_getElem? hx4)
  have QJ:=hI.2.2.2
  refine zD 3<|jbg<|jd 6 [2]<|js 13 (!sm) (fun h5=>?_) (fun h5=>?_)
  ·
   have Mb:=h5
   try simp only[zB] at Mb
   refine zD 10 ?_
   obtain⟨va6,vc6,he6⟩:=ho4.form
   subst he6
   refine jd 3 [1,2]<|jyn XK (Sub.refl _) ⟨(.slice va6 (x4).length vc6),x4,LL4,true⟩ ⟨ho4,rfl,fun _=>List.mem_of_getElem? hx4,hxl⟩ [0,1,2,4]
  have Mb:=h5
  try simp only[zB] at Mb
  refine jl (b:=b3) (off:=0) (m:=1) (vs:=[.func (.func 220) ⟨[]⟩ ⟨[]⟩]) 0 ⟨_,_,_,.inl (kN _ _ (ju _ (.head _))),rfl⟩<|jd 2 [1]<|jp (vs:=[v4,v]) [4,3] (LL4++Lb) (fun aE hs hZ=>aLL (ho4.lq hZ.left) (hI.1.lq hZ.right) (by first|omega| (simp only[List.length_set,List.length_append,List.length_cons,List.length_nil];omega)) (by first|omega| (simp only[List.length_set,List.length_append,List.length_cons,List.length_nil];omega))) ?_
  refine zD 3<|zJ 19 ((Mv x4 ps) <0) (fun h7=>?_) fun h7=>?_
  ·
   refine zD 3 ?_
   obtain⟨va8,vc8,he8⟩:=ho4.form
   subst he8
   refine jd 3 [1,2]<|jyn XK (Sub.refl _) ⟨(.slice va8 (x4).length vc8),x4,LL4,true⟩ ⟨ho4,rfl,fun _=>List.mem_of_getElem? hx4,hxl⟩ [0,1,2,4]
  refine zD 2<|jyn XK (Sub.refl _) ⟨v,ps,Lb,sm⟩ ⟨hI.1,by have:=hI.2.1;simp_all,fun _=>hI.2.2.1 (by have:=hI.2.1;simp_all),QJ⟩ [0,1,2,3]
 ·
  rintro bd4 ⟨v,ps,Lb,sm⟩ Z4 hI hZ4
  subst hZ4
  refine jd 8 [2,3]<|jrM qm0.a.m (.tuple ⟨[v,.bool sm]⟩) [0] [] [3] Lb cy ⟨v,by rw[←hI.2.1],ps,hI.1,hI.2.2.1⟩
 rintro bd4 ⟨v,ps,Lb,sm⟩ Z4 jump hS hZ4
 exact hS.elim
abbrev eBy(x:Int):List Value:=[.int .u8 x]
theorem aE3:EF zT 286 (Extern.BytealgMakeNoZero.makeNoZero #[3] #[347]):=⟨Tryz.f286,Tryz.func286,by kernel_rfl,by kernel_rfl,by kernel_rfl,by kernel_rfl⟩
def aps:=(mV Tryz.typeInfo347 Tryz.underlying347 rfl rfl rfl rfl rfl rfl:TF zT 347 _ 1 24 _ false)
theorem ab7{l:List Value}{T:TypeId}:aD (.slice (some ⟨b,0,none⟩) 0 l.length) 1 T eBy ([]:List Int) [(b,.cells ⟨l⟩ T (0,0))]:= .inr ⟨b,l,l.length,rfl,rfl,by simp,by simp,by simp,by simp⟩
theorem ajv{v:Value}{T:TypeId}{c:Int}{L:Cells}(h:aD v 1 T eBy [c] L):∃b l cap,cap≠0∧v= .slice (some ⟨b,0,none⟩) 1 cap∧L=[(b,.cells ⟨.int .u8 c::l⟩ T (0,0))]:=by
 rcases h with ⟨_,h,_⟩| ⟨b,l,cap,h1,h2,h3,h4,_,h6⟩
 ·cases h
 simp only[List.length_cons,List.length_nil] at h1 h4 h6
 cases l with
 |nil=>simp at h3;omega
 |cons x l=>
  simp at h6;subst h6
  exact⟨b,l,cap,by omega,h1,h2⟩
def Zd(n:Int):ByteArray:=⟨#[n.toNat.toUInt8]⟩
theorem aE4:EF zT 285 Extern.AbiNoEscape.same:=⟨Tryz.f285,Tryz.func285,by kernel_rfl,by kernel_rfl,by kernel_rfl,by kernel_rfl⟩
theorem aFs{v:Value}{ro:Nat→Option Obj}:eI zT 274 [zP b] ro [(b,.cells ⟨[.pointer none,v]⟩ 349 (0,0))] (fun r Y=>Y=[(b,.cells ⟨[zP b,v]⟩ 349 (0,0))]):=by
 refine bI av [.b b (.cells ⟨[.pointer none,v]⟩ 349 (0,0))] [] bB<|jd 12 [0]<|jmo [0] [0,0] [(b,.cells ⟨[.pointer none,v]⟩ 349 (0,0))] (zP b)<|jg 0 [.b b (.cells ⟨[.pointer none,v]⟩ 349 (0,0))]<|aNw (v:= zP b) aE4<|jmo [0] [0,0] [(b,.cells ⟨[.pointer none,v]⟩ 349 (0,0))] (zP b)<|jg 0 [.b b (.cells ⟨[.pointer none,v]⟩ 349 (0,0))]<|jd 4 [0]<|aJ q0 (.tuple ⟨[]⟩) [] [0] [(b,.cells ⟨[zP b,v]⟩ 349 (0,0))] (Sub.refl _) ⟨_,_,rfl,rfl,rfl⟩
theorem aFr{v:Value}{ro:Nat→Option Obj}:eI zT 274 [zP b] ro [(b,.cells ⟨[zP b,v]⟩ 349 (0,0))] (fun r Y=>Y=[(b,.cells ⟨[zP b,v]⟩ 349 (0,0))]):=by
 refine bI av [.b b (.cells ⟨[zP b,v]⟩ 349 (0,0))] [] bB<|jd 16 [0,0]<|jpn (b:=b)<|jg 0 []<|zD 3<|aJ q0 (.tuple ⟨[]⟩) [] [0] [(b,.cells ⟨[zP b,v]⟩ 349 (0,0))] (Sub.refl _) ⟨_,_,rfl,rfl,rfl⟩
theorem aFl{ro:Nat→Option Obj}:eI zT 275 [zP b,zI 1] ro [(b,.cells ⟨[zP b,zS]⟩ 349 (0,0))] (fun r Y=>∃v L,aD v 1 5 eBy ([]:List Int) L∧Y=(b,.cells ⟨[zP b,v]⟩ 349 (0,0))::L):=by
 refine bI av [.b b (.cells ⟨[zP b,zS]⟩ 349 (0,0))] [] bB<|jd 6 [0]<|jcp (c:=0)<|jd 8 [0]<|aN 8 fun C1 C7 AT=>jnz (n:=1) aE3 rfl aps (by omega) fun bb lz hlz=>jg 0 [.b bb (.cells ⟨lz⟩ 5 (0,0))]<|bD AT [1]<|js0 (a:=⟨bb,0,none⟩) (l:=1) (c:=lz.length)<|jd 9 [1]<|jmo [] [] [] (zI 0)<|jg 0 []<|jd 8 [1]<|aJ q0 (.tuple ⟨[]⟩) [] [1,0] ((b,.cells ⟨[zP b,(.slice (some ⟨bb,0,none⟩) 0 lz.length)]⟩ 349 (0,0))::[(bb,.cells ⟨lz⟩ 5 (0,0))]) (Sub.refl _) ⟨_,_,rfl,rfl,_,_,ab7,rfl⟩
theorem aFq{ro:Nat→Option Obj}:eI zT 257 [zP b,zI 1] ro [(b,.cells ⟨[.pointer none,zS]⟩ 349 (0,0))] (fun r Y=>∃v L,aD v 1 5 eBy ([]:List Int) L∧Y=(b,.cells ⟨[zP b,v]⟩ 349 (0,0))::L):=by
 refine bI av [.b b (.cells ⟨[.pointer none,zS]⟩ 349 (0,0))] [] bB<|zD 3<|jc (vs:=[zP b]) [0] (aFs (v:= zS)) ?_
 rintro _ _ rfl
 refine jg 0 [.b b (.cells ⟨[zP b,zS]⟩ 349 (0,0))]<|jd 15 [0]<|jcp (c:=0)<|jd 13 [0]<|jc (vs:=[zP b,zI 1]) [0] (aFl) ?_
 rintro _ _ ⟨v,L,hv,rfl⟩
 refine jg 0 [.b b (.cells ⟨[zP b,v]⟩ 349 (0,0)),.l L]<|zD 1<|aJ q0 (.tuple ⟨[]⟩) [] [0,1] ((b,.cells ⟨[zP b,v]⟩ 349 (0,0))::L) (Sub.refl _) ⟨_,_,rfl,rfl,v,L,hv,rfl⟩
theorem aFt{v:Value}{L:Cells}{c:Int}{ro:Nat→Option Obj}(ho:aD v 1 5 eBy ([]:List Int) L):eI zT 259 [zP b,.int .u8 c] ro ((b,.cells ⟨[zP b,v]⟩ 349 (0,0))::L) (fun r Y=>∃v' L',aD v' 1 5 eBy [c] L'∧Y=(b,.cells ⟨[zP b,v']⟩ 349 (0,0))::L'):=by
 refine bI av [.b b (.cells ⟨[zP b,v]⟩ 349 (0,0)),.l L] [] bB<|zD 7<|jc (vs:=[zP b]) [0] (aFr (v:=v)) ?_
 rintro _ _ rfl
 refine jg 0 [.b b (.cells ⟨[zP b,v]⟩ 349 (0,0))]<|jd 9 [0]<|jn fun yW=>jk (sz:=1) (ps:=[]) (qs:=[c]) (enc:=eBy) (w:= .slice (some ⟨yW,0,none⟩) 1 1) [2] [0] [(yW,.cells ⟨([c].map eBy).flatten⟩ 5 (0,0))] (ho) (fun s _ hZ=>cg [c] (hZ _ (.head _)) (by intro p hp;rfl)) (fun p _=>aj rfl) (by simp) (fun v14 L14 tJ=>?_)
 rw[List.nil_append] at tJ
 obtain⟨Ez,C5,uB⟩:=tJ.form
 subst uB
 refine jd 9 [2]<|aJ q0 (.nilIface) [] [2,0] ((b,.cells ⟨[zP b,(.slice Ez ([c]).length C5)]⟩ 349 (0,0))::L14) (Sub.refl _) ⟨_,_,rfl,rfl,_,_,tJ,rfl⟩
theorem aTe{bb cap:Nat}{l:List Value}{c:Int}{ro:Nat→Option Obj}(og:cap≠0):eI zT 260 [zP b] ro [(b,.cells ⟨[zP b,.slice (some ⟨bb,0,none⟩) 1 cap]⟩ 349 (0,0)),(bb,.cells ⟨.int .u8 c::l⟩ 5 (0,0))] (fun r Y=>r= .string (Zd c)):=by
 refine bI av [.b b (.cells ⟨[zP b,.slice (some ⟨bb,0,none⟩) 1 cap]⟩ 349 (0,0)),.b bb (.cells ⟨.int .u8 c::l⟩ 5 (0,0))] [] bB<|jd 15 [0,0]<|aN 4 fun C1 C7 AT=>jsd (a:=⟨bb,0,none⟩) (l:=1) og<|jg 0 []<|bD AT [0,1]<|aN 10 fun AY A5 Ah=>jus (b:=bb) (E:=5) [1] c l fun L9=>gX Ah [[1]]<|zD 3<|aJ q0 (.string (Zd c)) [] [] [] (Sub.refl _) ⟨_,_,rfl,rfl,rfl⟩
def tx(u:UInt8):ByteArray:=⟨#[u]⟩
theorem alD{u:UInt8}(h:u.toNat <128):Value.string (Utf8.encode (u.toNat:Int))= .string (tx u):=by
 have hv:Utf8.valid (u.toNat:Int)=true:=by simp only[Utf8.valid];simp;omega
 simp only[Utf8.encode,hv,if_true,Int.toNat_natCast,if_pos (show u.toNat <0x80 from h),tx]
 simp
theorem aEH{u:UInt8}{ro:Nat→Option Obj}(hu:(97≤u.toNat∧u.toNat≤122)):dL zT 236 [.string (tx u)] ro (.string (tx u)):=by
 have uA:(tx u).size=1:=rfl
 refine bI av [] [] bB<|zD 15<|eG [1,1,0,1,0,0] [] (fun(zz:Nat×Bool)=>[(0,.string (tx u)),(2,.string (bs [])),(3,.bool true),(4,.bool zz.2),(5,zI (zz.1:Int))]) (fun(zz:Nat×Bool)=>[]) (fun(zz:Nat×Bool)=>(zz.1=0∧zz.2=false)∨(zz.1=1∧zz.2=false)) (fun(zz:Nat×Bool)=>1-zz.1) (⟨0,false⟩) (.inl ⟨rfl,rfl⟩) [] ?_
 rintro⟨i,q⟩ hI K1 bU rest
 dsimp only at hI
 refine zD 8<|zJ 14 ((i:Int) <((tx u).size:Int)) (fun h1=>?_) fun h1=>?_
 ·
  refine zD 5 ?_
  obtain⟨hi0,VQ⟩:i=0∧q=false:=by rcases hI with h|h;exact h;omega
  refine jw 5 (zI 0) (show Value.int .i64 (i:Int)= zI 0 by rw[hi0];rfl) ?_
  refine jw 4 (.bool false) (show Value.bool q= .bool false by rw[VQ])<|zD 12<|zJ 21 ((u.toNat:Int)≥128) (fun h2=>?_) fun h2=>?_
  ·
   exfalso;omega
  refine zD 8<|js 26 (decide (65≤(u.toNat:Int))) (fun h3=>?_) (fun h3=>?_)
  ·
   have sD:=h3
   replace sD:=of_decide_eq_true sD
   refine zD 11<|bO bU (⟨1,decide ((u.toNat:Int)≤90)⟩) (.inr ⟨rfl,decide_eq_false (by omega)⟩) (by dsimp only;omega) [] (Sub.refl _)
  have sD:=h3
  replace sD:=of_decide_eq_false sD
  exfalso;omega
 refine zD 4 ?_
 obtain⟨hi1,hq1⟩:i=1∧q=false:=by rcases hI with h|h;omega;exact h
 refine jw 4 (.bool false) (show Value.bool q= .bool false by rw[hq1])<|zD 17<|aJ q0 (.string (tx u)) [] [] [] (Sub.refl _) ⟨_,_,rfl,rfl,rfl,rfl⟩
theorem aEG{u:UInt8}{ro:Nat→Option Obj}(hu:(65≤u.toNat∧u.toNat≤90)):dL zT 236 [.string (tx u)] ro (.string (Zd (IntKind.u8.wrap ((u.toNat:Int)+32)))):=by
 have uA:(tx u).size=1:=rfl
 refine bI av [] [] bB<|zD 15<|eG [1,1,0,1,0,0] [] (fun(zz:Nat×Bool)=>[(0,.string (tx u)),(2,.string (bs [])),(3,.bool true),(4,.bool zz.2),(5,zI (zz.1:Int))]) (fun(zz:Nat×Bool)=>[]) (fun(zz:Nat×Bool)=>(zz.1=0∧zz.2=false)∨(zz.1=1∧zz.2=true)) (fun(zz:Nat×Bool)=>1-zz.1) (⟨0,false⟩) (.inl ⟨rfl,rfl⟩) [] ?_
 rintro⟨i,q⟩ hI K1 bU rest
 dsimp only at hI
 refine zD 8<|zJ 14 ((i:Int) <((tx u).size:Int)) (fun h1=>?_) fun h1=>?_
 ·
  refine zD 5 ?_
  obtain⟨hi0,VQ⟩:i=0∧q=false:=by rcases hI with h|h;exact h;omega
  refine jw 5 (zI 0) (show Value.int .i64 (i:Int)= zI 0 by rw[hi0];rfl) ?_
  refine jw 4 (.bool false) (show Value.bool q= .bool false by rw[VQ])<|zD 12<|zJ 21 ((u.toNat:Int)≥128) (fun h2=>?_) fun h2=>?_
  ·
   exfalso;omega
  refine zD 8<|js 26 (decide (65≤(u.toNat:Int))) (fun h3=>?_) (fun h3=>?_)
  ·
   have sD:=h3
   replace sD:=of_decide_eq_true sD
   refine zD 11<|bO bU (⟨1,decide ((u.toNat:Int)≤90)⟩) (.inr ⟨rfl,decide_eq_true (by omega)⟩) (by dsimp only;omega) [] (Sub.refl _)
  have sD:=h3
  replace sD:=of_decide_eq_false sD
  exfalso;omega
 refine zD 4 ?_
 obtain⟨hi1,hq1⟩:i=1∧q=true:=by rcases hI with h|h;omega;exact h
 refine jw 4 (.bool true) (show Value.bool q= .bool true by rw[hq1])<|zD 14<|jn fun b7=>zD 9<|jc (vs:=[zP b7,zI 1]) [0] (aFq) ?_
 rintro _ _ ⟨v,L,hv,rfl⟩
 refine jg 0 [.b b7 (.cells ⟨[zP b7,v]⟩ 349 (0,0)),.l L]<|zD 7<|eG [1,1,1,0,1,0,1,1,1,1,0,1,0,0] [] (fun(zz:Nat×Int×Value×Cells×(List Int))=>[(0,.string (tx u)),(2,.string (bs [])),(7,zP b7),(8,zI zz.2.1),(9,zI (zz.1:Int))]) (fun(zz:Nat×Int×Value×Cells×(List Int))=>[.b b7 (.cells ⟨[zP b7,zz.2.2.1]⟩ 349 (0,0)),.l zz.2.2.2.1]) (fun(zz:Nat×Int×Value×Cells×(List Int))=>aD zz.2.2.1 1 5 eBy zz.2.2.2.2 zz.2.2.2.1∧((zz.1=0∧zz.2.1=0∧zz.2.2.2.2=[])∨(zz.1=1∧zz.2.1=1∧zz.2.2.2.2=[(IntKind.u8.wrap ((u.toNat:Int)+32))]))) (fun(zz:Nat×Int×Value×Cells×(List Int))=>1-zz.1) (⟨0,0,v,L,[]⟩) ⟨hv,.inl ⟨rfl,rfl,rfl⟩⟩ [0,1] ?_
 rintro⟨j,p,v,L,xs⟩ hJ K2 lL rest
 dsimp only at hJ
 refine zD 8<|zJ 41 ((j:Int) <((tx u).size:Int)) (fun h4=>?_) fun h4=>?_
 ·
  refine zD 5 ?_
  obtain⟨hj0,hp0,FO⟩:j=0∧p=0∧xs=[]:=by rcases hJ.2 with h|h;exact h;omega
  refine jw 9 (zI 0) (show Value.int .i64 (j:Int)= zI 0 by rw[hj0];rfl) ?_
  refine jw 8 (zI 0) (show Value.int .i64 p= zI 0 by rw[hp0])<|zD 11<|js 49 (decide (65≤(u.toNat:Int))) (fun h5=>?_) (fun h5=>?_)
  ·
   have Mb:=h5
   replace Mb:=of_decide_eq_true Mb
   refine zD 4<|zJ 52 ((u.toNat:Int)≤90) (fun h6=>?_) fun h6=>?_
   ·
    refine zD 19<|jc (vs:=[zP b7,.int .u8 (IntKind.u8.wrap ((u.toNat:Int)+32))]) [0,1] (aFt (by have:=hJ.1;rwa[FO] at this)) ?_
    rintro _ _ ⟨v2,L2,Hv,rfl⟩
    refine jg 0 [.b b7 (.cells ⟨[zP b7,v2]⟩ 349 (0,0)),.l L2]<|zD 11<|bO lL (⟨1,1,v2,L2,[(IntKind.u8.wrap ((u.toNat:Int)+32))]⟩) ⟨Hv,.inr ⟨rfl,rfl,rfl⟩⟩ (by dsimp only;omega) [0,1] (Sub.refl _)
   exfalso;omega
  have Mb:=h5
  replace Mb:=of_decide_eq_false Mb
  exfalso;omega
 refine zD 4 ?_
 obtain⟨hj1,hp1,hx1⟩:j=1∧p=1∧xs=[(IntKind.u8.wrap ((u.toNat:Int)+32))]:=by rcases hJ.2 with h|h;omega;exact h
 refine jw 8 (zI 1) (show Value.int .i64 p= zI 1 by rw[hp1])<|zD 9 ?_
 obtain⟨bb,lz,cap,og,rfl,rfl⟩:=ajv (by have:=hJ.1;rwa[hx1] at this)
 refine zD 1<|jc (vs:=[zP b7]) [0,1] (aTe (bb:=bb) (l:=lz) (c:=(IntKind.u8.wrap ((u.toNat:Int)+32))) og) ?_
 rintro _ Yz rfl
 refine zD 3<|aJ q0 (.string (Zd (IntKind.u8.wrap ((u.toNat:Int)+32)))) [] [] [] (Sub.refl _) ⟨_,_,rfl,rfl,rfl,rfl⟩
def acU(u:UInt8):ByteArray:=if u.toNat <97 then Zd (IntKind.u8.wrap ((u.toNat:Int)+32)) else tx u
theorem aSD{u:UInt8}{ro:Nat→Option Obj}(h:FE u=true∨Fg u=true):dL zT 236 [.string (tx u)] ro (.string (acU u)):=by
 unfold acU
 rcases h with h|h
 ·simp only[FE,Bool.and_eq_true,Nat.ble_eq] at h
  rw[if_neg (by omega)]
  exact aEH (by omega)
 simp only[Fg,Bool.and_eq_true,Nat.ble_eq] at h
 rw[if_pos (by omega)]
 exact aEG (by omega)
def uqN(rs:List cP)(a to:ByteArray):Nat→Nat→Option Nat
 |0,_=>none
 |f+1,m=>bif decide (0 <(Ni rs to m a []).length) then some m else uqN rs a to f (m+1)
def uq(rs:List cP)(a to:ByteArray):Option Nat:=uqN rs a to 3 0
def jz(c:UInt8):ByteArray:=if c.toNat=67 then bs [99,104] else if c.toNat=74 then bs [106,117] else if c.toNat=89 then bs [106,97] else if c.toNat=88 then bs [115,104] else if c.toNat <97 then bs [c.toNat+32] else bs [c.toNat]
def H0:List UInt8→ByteArray→ByteArray
 | [],a=>a
 |c::l,a=>H0 l (a++jz c)
def keyOf(w:ByteArray):ByteArray:=H0 w.data.toList (bs [])
theorem aj5{l:List UInt8}{c:UInt8}{a:ByteArray}(h:l[k]?=some c):H0 (l.drop k) a=H0 (l.drop (k+1)) (a++jz c):=by rw[fT h];rfl
theorem ac7{l:List UInt8}{a:ByteArray}(h:l[k]?=none):H0 (l.drop k) a=a:=by rw[eP (by rw[List.getElem?_eq_none_iff] at h;omega)];rfl
def Et(rs:List cP)(a b:ByteArray):Int:=match uq rs (keyOf a) (keyOf b) with
 |none=>2
 |some 0=>1
 |some _=>3
structure qV(w:ByteArray):Prop where
 n:1≤w.size∧w.size≤6
 s:Script w
def So(c:UInt8):Prop:=FE c=true∨Fg c=true
theorem qV.let{w:ByteArray}(h:qV w):∀c∈w.data.toList,So c:=fun c hc=>h.s.elim (fun k=> .inl (k c hc)) fun k=> .inr (k c hc)
theorem Xm:((List.range 256).all fun n=> !(FE (UInt8.ofNat n)||Fg (UInt8.ofNat n))||(ajW (jz (UInt8.ofNat n))&&(Nat.ble 1 (jz (UInt8.ofNat n)).size&&Nat.ble (jz (UInt8.ofNat n)).size 2)))=true:=by kernel_rfl
theorem NW{c:UInt8}(h:So c):wT (jz c)∧1≤(jz c).size∧(jz c).size≤2:=by
 have h2:=List.all_eq_true.1 Xm c.toNat (List.mem_range.2 c.toNat_lt)
 have hb:UInt8.ofNat c.toNat=c:=by simp
 rw[hb] at h2
 have h3:(FE c||Fg c)=true:=by rcases h with h|h<;>simp[h]
 rw[h3] at h2
 simp only[Bool.not_true,Bool.false_or,Bool.and_eq_true,Nat.ble_eq] at h2
 exact⟨Fz h2.1,h2.2⟩
theorem VA:∀ {l:List UInt8} {a:ByteArray},(∀c∈l,So c)→wT a→wT (H0 l a)∧(H0 l a).size≤a.size+2*l.length
 | [],a,_,ha=>⟨ha,by simp[H0]⟩
 |c::l,a,h,ha=>by
  have h1:=NW (h c (by simp))
  obtain⟨h2,h3⟩:=VA (l:=l) (a:=a++jz c) (fun x hx=>h x (by simp[hx])) (ha.app h1.1)
  refine⟨h2,?_⟩
  simp only[H0,ByteArray.size_append,List.length_cons] at h3 ⊢
  omega
theorem O0{w:ByteArray}(h:qV w):wT (keyOf w)∧(keyOf w).size≤12:=by
 have h1:=VA (l:=w.data.toList) (a:=bs []) h.let (fun b hb=>by cases hb)
 have h2:w.data.toList.length=w.size:=Array.length_toList
 have h3:=h.n
 exact⟨h1.1,by have:=h1.2;have e:(bs []).size=0:=rfl;unfold keyOf;omega⟩
theorem ajV{c:UInt8}(h:So c)(h1:¬(c.toNat:Int)=67)(h2:¬(c.toNat:Int)=74)(h3:¬(c.toNat:Int)=89)(h4:¬(c.toNat:Int)=88):acU c=jz c:=by
 simp only[acU,jz,if_neg (show ¬c.toNat=67 by omega),if_neg (show ¬c.toNat=74 by omega),if_neg (show ¬c.toNat=89 by omega),if_neg (show ¬c.toNat=88 by omega)]
 split
 ·simp only[Zd,bs]
  rw[rN .u8 rfl _ (by omega) (by simp[IntKind.bits];omega),show ((c.toNat:Int)+32).toNat=c.toNat+32 by omega]
  rfl
 simp[tx,bs]
theorem let_128{c:UInt8}(h:So c):c.toNat <128:=by
 rcases h with h|h
 ·simp only[FE,Bool.and_eq_true,Nat.ble_eq] at h;omega
 simp only[Fg,Bool.and_eq_true,Nat.ble_eq] at h;omega
theorem aqL{c:UInt8}{ro:Nat→Option Obj}(h:So c):dL zT 217 [.int .i32 (c.toNat:Int)] ro (.string (jz c)):=by
 refine bI av [] [] bB<|zD 29<|zJ 5 ((c.toNat:Int)=67) (fun h1=>?_) fun h1=>?_
 ·
  refine zD 8<|aJ q0 (.string (bs [99,104])) [] [] [] (Sub.refl _) ⟨_,_,rfl,rfl,by rw[jz,if_pos (by omega)]<;>rfl,rfl⟩
 refine zD 8<|zJ 7 ((c.toNat:Int)=74) (fun h2=>?_) fun h2=>?_
 ·
  refine zD 17<|jsa (a:=(bs [106])) (b:=(bs [117])) 9 (by decide)<|zD 3<|aJ q0 (.string ((bs [106])++(bs [117]))) [] [] [] (Sub.refl _) ⟨_,_,rfl,rfl,by rw[jz,if_neg (by omega),if_pos (by omega)]<;>rfl,rfl⟩
 refine zD 8<|zJ 9 ((c.toNat:Int)=89) (fun h3=>?_) fun h3=>?_
 ·
  refine zD 16<|jsa (a:=(bs [106])) (b:=(bs [97])) 9 (by decide)<|zD 3<|aJ q0 (.string ((bs [106])++(bs [97]))) [] [] [] (Sub.refl _) ⟨_,_,rfl,rfl,by rw[jz,if_neg (by omega),if_neg (by omega),if_pos (by omega)]<;>rfl,rfl⟩
 refine zD 7<|zJ 11 ((c.toNat:Int)=88) (fun h4=>?_) fun h4=>?_
 ·
  refine zD 8<|aJ q0 (.string (bs [115,104])) [] [] [] (Sub.refl _) ⟨_,_,rfl,rfl,by rw[jz,if_neg (by omega),if_neg (by omega),if_neg (by omega),if_pos (by omega)]<;>rfl,rfl⟩
 refine zD 6<|je (.string (tx c)) (alD (let_128 h))<|jp (vs:=[.string (tx c)]) [] [] (fun aE hs hZ=>(aSD h))<|zD 3<|aJ q0 (.string (acU c)) [] [] [] (Sub.refl _) ⟨_,_,rfl,rfl,by rw[ajV h (by omega) (by omega) (by omega) (by omega)],rfl⟩
theorem ajO{w to:ByteArray}{ro:Nat→Option Obj}(hl:bL ro vl 2 iB rs)(hR:∀r∈rs,qU r)(hw:wT w)(ry:w.size≤100)(hq:rs.length≤100):eI zT 198 [.string w,vl,.string to] ro [] (fun r Y=>(∃n v ps,uq rs w to=some n∧r= .tuple ⟨[v,.bool true]⟩∧aD v 1 9 pf ps Y∧ps.length=n+1)∨(uq rs w to=none∧r= .tuple ⟨[zS,.bool false]⟩∧Y=[])):=by
 obtain⟨fC,rj,ri,eV,rfl,tj,lB,mz⟩:=hl
 refine bI av [] [] bB<|zD 11<|eG [1,0,1,0,0] [] (fun(zz:Nat)=>[(0,.string w),(1,.slice fC rs.length eV),(2,.string to),(11,zI (zz:Int))]) (fun(zz:Nat)=>[]) (fun(zz:Nat)=>zz≤3∧uq rs w to=uqN rs w to (3-zz) zz) (fun(zz:Nat)=>3-zz) 0 ⟨by omega,rfl⟩ [] ?_
 rintro k hI K1 bU rest
 refine zD 5<|zJ 12 ((k:Int) <3) (fun h1=>?_) fun h1=>?_
 ·
  refine zD 15<|jc (vs:=[.string w,.slice fC rs.length eV,.string to,zI (k:Int)]) [] (acD (show bL _ _ _ _ _ from ⟨fC,rj,ri,eV,rfl,tj,lB,mz⟩)) ?_
  rintro _ _ ⟨acS,acR,acQ,acP,rfl,rfl⟩
  refine jg 0 [.b acS (.cells ⟨[.string w]⟩ 291 (0,0)),.b acR (.cells ⟨[.slice fC rs.length eV]⟩ 34 (0,0)),.b acQ (.cells ⟨[.string to]⟩ 291 (0,0)),.b acP (.cells ⟨[zI (k:Int)]⟩ 3 (0,0))]<|jf [0,1,2,3] ((acS,.cells ⟨[.string w]⟩ 291 (0,0))::((acR,.cells ⟨[.slice fC rs.length eV]⟩ 34 (0,0))::((acQ,.cells ⟨[.string to]⟩ 291 (0,0))::[(acP,.cells ⟨[zI (k:Int)]⟩ 3 (0,0))]))) fun ro4 pY ZP=>jc (vs:=[.func (.func 237) ⟨[]⟩ ⟨[zP acP,zP acQ,zP acR,zP acS]⟩,.func (.func 220) ⟨[]⟩ ⟨[]⟩]) [] (aqN (X9 (ZP _ (.tail _ (.tail _ (.tail _ (.head _))))) (ZP _ (.tail _ (.tail _ (.head _)))) (ZP _ (.tail _ (.head _))) (ZP _ (.head _)) ((show bL _ _ _ _ _ from ⟨fC,rj,ri,eV,rfl,tj,lB,mz⟩).up pY) hR hw ry hq (by omega)) (fun x hx=>by have:=Mz hx;simp at this;omega)) ?_
  rintro _ L20 ⟨v20,rfl,aMN,aPb,asF⟩
  refine zD 10<|js 23 (decide (0 <(Ni rs to k w []).length)) (fun h5=>?_) (fun h5=>?_)
  ·
   refine zD 8<|aJ q0.a (.tuple ⟨[v20,.bool true]⟩) [] [0] L20 pY ⟨_,_,rfl,rfl,.inl ⟨k,v20,aMN,by rw[hI.2,show 3-k=(3-(k+1))+1 by omega,uqN,h5];rfl,rfl,aPb,by have:=Mz (asF (of_decide_eq_true h5));simpa using this⟩⟩
  refine zD 3<|ja ((k:Int)+1) (by omega)<|zD 2<|bO bU (k+1) ⟨by omega,by rw[hI.2,show 3-k=(3-(k+1))+1 by omega,uqN,h5];rfl⟩ (by omega) [] pY
 refine zD 8<|aJ q0 (.tuple ⟨[zS,.bool false]⟩) [] [] [] (Sub.refl _) ⟨_,_,rfl,rfl,.inr ⟨by rw[hI.2,show 3-k=0 by omega];rfl,rfl,rfl⟩⟩
theorem aq0{c:UInt8}(h:So c):c.toNat <128:=by
 rcases h with h|h
 ·simp only[FE,Bool.and_eq_true,Nat.ble_eq] at h;omega
 simp only[Fg,Bool.and_eq_true,Nat.ble_eq] at h;omega
theorem aqO{w to:ByteArray}{ro:Nat→Option Obj}(hl:bL ro vl 2 iB rs)(hR:∀r∈rs,qU r)(hw:wT w)(ry:w.size≤100)(hq:rs.length≤100):eI zT 198 [.string w,vl,.string to] ro [] (fun r Y=>∃v ps ok,r= .tuple ⟨[v,.bool ok]⟩∧aD v 1 9 pf ps Y∧(ok=true→uq rs w to=some (ps.length-1)∧1≤ps.length)∧(ok=false→uq rs w to=none)):=by
 refine(ajO hl hR hw ry hq).mono fun _ _ h=>?_
 rcases h with ⟨n,v,ps,h1,h2,h3,h4⟩| ⟨h1,h2,h3⟩
 ·exact⟨v,ps,true,h2,h3,fun _=>⟨by rw[h4];exact h1,by omega⟩,nofun⟩
 subst h3;exact⟨_,[],false,h2,aD.nil _ _ _,nofun,fun _=>h1⟩
def uN(rs:List cP)(a b:ByteArray):Int:=match uq rs a b with
 |some n=>n
 |none=>0
def uE(rs:List cP)(a b:ByteArray):Int:=match uq rs a b with
 |some _=>0
 |none=>11
theorem amz{a to:ByteArray}:∀ {f m n:Nat},uqN rs a to f m=some n→n <m+f
 |0,_,_,h=>by cases h
 |f+1,m,n,h=>by
  simp only[uqN] at h
  cases hd:decide (0 <(Ni rs to m a []).length) with
  |true=>rw[hd] at h;simp only[cond_true,Option.some.injEq] at h;omega
  |false=>rw[hd] at h;simp only[cond_false] at h;have:=amz h;omega
theorem nOf{w:ByteArray}{ro:Nat→Option Obj}(hw:qV w):dL zT 197 [.string w] ro (.string (keyOf w)):=by
 refine bI av [] [] bB<|zD 12<|jn fun r7=>zD 2<|eG [1,1,0,1,0,0] [] (fun(zz:Nat×ByteArray)=>[(2,.string (bs [])),(3,.string zz.2),(7,zP r7)]) (fun(zz:Nat×ByteArray)=>[.b r7 (.stringIter w zz.1)]) (fun(zz:Nat×ByteArray)=>(zz.1≤w.data.toList.length∧zz.2.size≤2*zz.1)∧keyOf w=H0 (w.data.toList.drop zz.1) zz.2) (fun(zz:Nat×ByteArray)=>w.data.toList.length-zz.1) (⟨0,(bs [])⟩) ⟨⟨by omega,Nat.le_refl _⟩,rfl⟩ [0] ?_
 rintro⟨p,a⟩ hI K1 bU rest
 dsimp only at hI
 refine zD 2 ?_
 cases hn8:w.data.toList[p]? with
 |some x8=>
  refine jnA r7 0 hn8 (aq0 (hw.let _ (List.mem_of_getElem? hn8)))<|zD 11 ?_
  have hso:=NW (hw.let _ (List.mem_of_getElem? hn8))
  have hlen:w.data.toList.length=w.size:=Array.length_toList
  have hwn:=hw.n
  refine zD 3<|jp (vs:=[.int .i32 (x8.toNat:Int)]) [] [] (fun aE hs hZ=>(aqL (hw.let _ (List.mem_of_getElem? hn8))))<|jsa (a:=a) (b:=(jz x8)) 9 (by omega)<|zD 2<|bO bU (⟨p+1,(a++jz x8)⟩) ⟨⟨by have:=(List.getElem?_eq_some_iff.1 hn8).1;dsimp only;omega,by dsimp only;rw[ByteArray.size_append];omega⟩,by rw[hI.2,aj5 hn8]⟩ (by have:=(List.getElem?_eq_some_iff.1 hn8).1;dsimp only;omega) [0] (Sub.refl _)
 |none=>
  refine jnZ r7 0 hn8<|zD 11<|aJ q0 (.string a) [] [] [] (Sub.refl _) ⟨_,_,rfl,rfl,by rw[hI.2,ac7 hn8],rfl⟩
theorem ajN{ro:Nat→Option Obj}(hl:bL ro vl 2 iB rs)(hR:∀r∈rs,qU r)(hq:rs.length≤4)(H8:qV na)(F8:qV nb):eI zT 157 [vl,.string na,.string nb] ro [] (fun r Y=>∃v ps e,r= .tuple ⟨[v,zI e]⟩∧aD v 1 9 pf ps Y∧ps.length≤3∧((e=0∧uq rs (keyOf na) (keyOf nb)=some (ps.length-1)∧1≤ps.length)∨(e=11∧uq rs (keyOf na) (keyOf nb)=none))):=by
 obtain⟨fC,rj,ri,eV,rfl,tj,lB,mz⟩:=hl
 refine bI av [] [] bB<|zD 9<|jp (vs:=[.slice fC rs.length eV]) [] [] (fun aE hs hZ=>X6 ((show bL _ _ _ _ _ from ⟨fC,rj,ri,eV,rfl,tj,lB,mz⟩).up hs) (by omega) hR)<|zD 14<|jn fun Hd=>jp (vs:=[.slice (some ⟨Hd,0,none⟩) 2 2]) [0] [(Hd,.cells ⟨([na,nb].map pf).flatten⟩ 9 (0,0))] (fun aE hs hZ=>acC (cb [na,nb] hZ.head (by intro p hp;rfl)) (by first|omega| (simp only[List.length_set,List.length_append,List.length_cons,List.length_nil];omega)) (by intro x hx;simp only[List.mem_cons,List.not_mem_nil,or_false] at hx;rcases hx with rfl|rfl;exact⟨H8.n,H8.s⟩;exact⟨F8.n,F8.s⟩)) ?_
 refine zD 12<|jp (vs:=[.string na]) [] [] (fun aE hs hZ=>(nOf H8))<|zD 2<|jp (vs:=[.string nb]) [] [] (fun aE hs hZ=>(nOf F8))<|jc (vs:=[.string (keyOf na),.slice fC rs.length eV,.string (keyOf nb)]) [] (aqO (show bL _ _ _ _ _ from ⟨fC,rj,ri,eV,rfl,tj,lB,mz⟩) hR (O0 H8).1 (by have:=(O0 H8).2;omega) (by omega)) ?_
 rintro _ L30 ⟨v30,aMM,aMX,rfl,BI,arI,aNR⟩
 refine zD 12<|js 34 (!aMX) (fun h1=>?_) (fun h1=>?_)
 ·
  try simp only[zB] at h1
  refine zD 7<|aJ q0 (.tuple ⟨[zS,zI 11]⟩) [] [] [] (Sub.refl _) ⟨_,_,rfl,rfl,_,[],_,rfl,aD.nil _ _ _,by simp,.inr ⟨rfl,aNR (by simp_all)⟩⟩
 try simp only[zB] at h1
 refine zD 9<|aJ q0 (.tuple ⟨[v30,zI 0]⟩) [] [0] L30 (Sub.refl _) ⟨_,_,rfl,rfl,_,aMM,_,rfl,BI,by have:=amz (arI (by simp_all)).1;have:=(arI (by simp_all)).2;omega,.inl ⟨rfl,arI (by simp_all)⟩⟩
theorem ay9{ro:Nat→Option Obj}(hl:bL ro vl 2 iB rs)(hR:∀r∈rs,qU r)(hq:rs.length≤4)(H8:qV na)(F8:qV nb):dL zT 113 [vl,.string na,.string nb] ro (.tuple ⟨[zI (uN rs (keyOf na) (keyOf nb)),zI (uE rs (keyOf na) (keyOf nb))]⟩):=by
 obtain⟨fC,rj,ri,eV,rfl,tj,lB,mz⟩:=hl
 refine bI av [] [] bB<|zD 10<|jc (vs:=[.slice fC rs.length eV,.string na,.string nb]) [] (ajN (show bL _ _ _ _ _ from ⟨fC,rj,ri,eV,rfl,tj,lB,mz⟩) hR hq H8 F8) ?_
 rintro _ L14 ⟨v14,ayK,Mp,rfl,SU,bcz,uB⟩
 refine zD 12<|js 18 (!decide (Mp=0)) (fun h1=>?_) (fun h1=>?_)
 ·
  replace h1:=of_decide_eq_false (by simpa using h1)
  refine zD 8<|aJ q0 (.tuple ⟨[zI 0,zI Mp]⟩) [] [] [] (Sub.refl _) ⟨_,_,rfl,rfl,by rcases uB with ⟨h1,h2,h3⟩| ⟨h1,h2⟩<;>simp only[uN,uE,h2]<;>(subst h1;simp_all<;>omega),rfl⟩
 replace h1:=of_decide_eq_true (by simpa using h1)
 refine zD 5<|D7 SU<|ja ((ayK.length:Int)-1) (by omega)<|zD 4<|aJ q0 (.tuple ⟨[zI ((ayK.length:Int)-1),zI 0]⟩) [] [] [] (Sub.refl _) ⟨_,_,rfl,rfl,by rcases uB with ⟨h1,h2,h3⟩| ⟨h1,h2⟩<;>simp only[uN,uE,h2]<;>(subst h1;simp_all<;>omega),rfl⟩
theorem OH{ro:Nat→Option Obj}(hl:bL ro vl 2 iB rs)(hR:∀r∈rs,qU r)(hq:rs.length≤4)(H8:qV na)(F8:qV nb):dL zT 87 [vl,.string na,.string nb] ro (.tuple ⟨[zI (Et rs na nb),zI 0]⟩):=by
 obtain⟨fC,rj,ri,eV,rfl,tj,lB,mz⟩:=hl
 refine bI av [] [] bB<|zD 10<|jp (vs:=[.slice fC rs.length eV,.string na,.string nb]) [] [] (fun aE hs hZ=>ay9 ((show bL _ _ _ _ _ from ⟨fC,rj,ri,eV,rfl,tj,lB,mz⟩).up hs) hR hq H8 F8)<|zD 14<|zJ 17 ((uE rs (keyOf na) (keyOf nb))=11) (fun h1=>?_) fun h1=>?_
 ·
  refine zD 7<|aJ q0 (.tuple ⟨[zI 2,zI 0]⟩) [] [] [] (Sub.refl _) ⟨_,_,rfl,rfl,by simp only[uN,uE,Et] at*;rcases huq:uq rs (keyOf na) (keyOf nb) with _|_|n<;>simp_all<;>omega,rfl⟩
 refine zD 7<|js 20 (!decide ((uE rs (keyOf na) (keyOf nb))=0)) (fun h2=>?_) (fun h2=>?_)
 ·
  replace h2:=of_decide_eq_false (by simpa using h2)
  refine zD 8<|aJ q0 (.tuple ⟨[zI 0,zI (uE rs (keyOf na) (keyOf nb))]⟩) [] [] [] (Sub.refl _) ⟨_,_,rfl,rfl,by simp only[uN,uE,Et] at*;rcases huq:uq rs (keyOf na) (keyOf nb) with _|_|n<;>simp_all<;>omega,rfl⟩
 replace h2:=of_decide_eq_true (by simpa using h2)
 refine zD 7<|zJ 24 ((uN rs (keyOf na) (keyOf nb))=0) (fun h3=>?_) fun h3=>?_
 ·
  refine zD 7<|aJ q0 (.tuple ⟨[zI 1,zI 0]⟩) [] [] [] (Sub.refl _) ⟨_,_,rfl,rfl,by simp only[uN,uE,Et] at*;rcases huq:uq rs (keyOf na) (keyOf nb) with _|_|n<;>simp_all<;>omega,rfl⟩
 refine zD 8<|aJ q0 (.tuple ⟨[zI 3,zI 0]⟩) [] [] [] (Sub.refl _) ⟨_,_,rfl,rfl,by simp only[uN,uE,Et] at*;rcases huq:uq rs (keyOf na) (keyOf nb) with _|_|n<;>simp_all<;>omega,rfl⟩
end Go.L
