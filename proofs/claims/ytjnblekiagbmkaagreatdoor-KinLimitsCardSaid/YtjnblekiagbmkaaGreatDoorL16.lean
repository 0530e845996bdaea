/- Part 16 of the proof: a program logic, contracts, a theorem on goroutines. -/
import Derived.Test.YtjnblekiagbmkaaGreatDoorL15
set_option maxRecDepth 100000
set_option linter.all false
namespace Go.L
open Go Go.Conc Go.Proofs
variable {K:bk} {p:Nat→Int} {f n past bu bl bf br bg bt bo b3 b4:Nat} {Stop:Cells→Prop} {b:Int} {α:Type}
def jM(K:bk)(on:Int):Nat→Nat→(Nat→Int)→List (Nat→Int)
 |0,_,p=>bif oJ on p K.facts 0 then [p] else []
 |n+1,a,p=>jM K on n (a+1) p++(List.range K.after.length).flatMap fun b=>bif !cZ K on a b||SA p a ((b:Int)+1) then [] else jM K on n (a+1) (pN p a ((b:Int)+1))
def ng(K:bk)(on:Int)(n a:Nat)(p:Nat→Int)(b:Nat):List (Nat→Int):=bif !cZ K on a b||SA p a ((b:Int)+1) then [] else jM K on n (a+1) (pN p a ((b:Int)+1))
theorem qi(K:bk)(on:Int)(n a:Nat)(p:Nat→Int):jM K on (n+1) a p=jM K on n (a+1) p++(List.range K.after.length).flatMap (ng K on n a p):=rfl
theorem Part.left{L x y:List α}{p:Nat}(h:Part L p (x++y)):Part L p x:=by
 obtain⟨a,b,rfl,h2⟩:=h
 exact⟨a,y++b,by simp,h2⟩
theorem Part.right{L x y:List α}{p:Nat}(h:Part L p (x++y)):Part L (p+x.length) y:=by
 obtain⟨a,b,rfl,rfl⟩:=h
 exact⟨a++x,b,by simp,by simp⟩
theorem WS{j:Nat}(h:j <n):∃r,List.range n=List.range j++[j]++r:=by
 refine⟨(List.range n).drop (j+1),?_⟩
 have h1:(List.range n).take (j+1)=List.range (j+1):=by rw[List.take_range,Nat.min_eq_left h]
 rw[←List.range_succ,←h1,List.take_append_drop]
theorem Vy{q:Nat→Int}{a:Nat}{v:Int}(ha:a <4)(h:∀i,i≠a→q i=p i):SA q a v=SA p a v:=by
 have:(pL q).take a=(pL p).take a:=by
  rcases Kz ha with rfl|rfl|rfl|rfl
  ·rfl
  ·simp[h 0 (by omega)]
  ·simp[h 0 (by omega),h 1 (by omega)]
  simp[h 0 (by omega),h 1 (by omega),h 2 (by omega)]
 simp only[SA,this]
theorem TR{q:Nat→Int}{a:Nat}{v:Int}(h:∀i,i≠a→q i=p i):pN q a v=pN p a v:=by
 funext i
 simp only[pN]
 split
 ·rfl
 rename_i hi;exact h i hi
abbrev ePs(L:List (Nat→Int)):(Nat→Option Obj)→Nat→List Value→Cells→Prop:=fun _ k vs LL=>∃p,L[k]?=some p∧vs=[.agg ⟨eP4 p⟩]∧LL=[]
structure agB(ro:Nat→Option Obj)(bl f:Nat)(K:bk)(on:Int)(bf br bu bg bt bo:Nat):Prop where
 f:ro bf=some (.cells ⟨[zP f]⟩ 80 (0,0))
 r:ro br=some (.cells ⟨[.func (.func 99) ⟨[]⟩ ⟨[zP bf,zP bo]⟩]⟩ 200 (0,0))
 y:ro bu=some (.cells ⟨[.func (.yield bl) #[] #[]]⟩ 200 (0,0))
 g:ro bg=some (.cells ⟨[.func (.func 102) ⟨[]⟩ ⟨[zP bf,zP br,zP bu,zP bg,zP bt]⟩]⟩ 201 (0,0))
 t:ro bt=some (.cells ⟨BX ⟨cZ K on⟩⟩ 127 (0,0))
 o:ro bo=some (.cells ⟨[.int .u8 on]⟩ 85 (0,0))
def anM(bl f:Nat)(K:bk)(rows:List bU)(on:Int)(bf br bu bg bt bo:Nat)(L:List (Nat→Int))(Inv:Nat→Cells→Prop)(Stop:Cells→Prop)(n:Nat):Prop:=
 ∀(ro:Nat→Option Obj) (a:Nat) (p:Nat→Int) (q:Nat) (B:Cells),agB ro bl f K on bf br bu bg bt bo→pF ro f K rows→a+n=K.before.length→Part L q (jM K on n a p)→Inv q B→YO zT bl ro L.length (ePs L) Inv Stop→
  eG zT 102 [.agg ⟨eP4 p⟩,zI (a:Int),zP bf,zP br,zP bu,zP bg,zP bt] ro B (fun r Y=>∃c,r= .bool c∧(c=true→Inv (q+(jM K on n a p).length) Y)∧(c=false→Stop Y))
theorem aqs{a q:Nat}{on:Int}{B:Cells}{L:List (Nat→Int)}{Inv:Nat→Cells→Prop}{rows:List bU}{ro:Nat→Option Obj}(ih:∀m,m <n→anM bl f K rows on bf br bu bg bt bo L Inv Stop m)(hV:gT K)(oh:agB ro bl f K on bf br bu bg bt bo)(hF:pF ro f K rows)(han:a+n=K.before.length)(hP:Part L q (jM K on n a p))(hB:Inv q B)(hy:YO zT bl ro L.length (ePs L) Inv Stop):eG zT 102 [.agg ⟨[zI (p 0),zI (p 1),zI (p 2),zI (p 3)]⟩,zI (a:Int),zP bf,zP br,zP bu,zP bg,zP bt] ro B (fun r Y=>∃c,r= .bool c∧(c=true→Inv (q+(jM K on n a p).length) Y)∧(c=false→Stop Y)):=by
 obtain⟨gf,gr,gy,gg,gt,go⟩:=id oh
 obtain⟨c0,c1,c2,vc,vh,vr,vb,va,vf,vt,hv,hf,rO,oF,hr,Ds,HQ,I6,bM⟩:=id hF
 obtain⟨hc,hh,cY⟩:=id rO
 obtain⟨eL,AR,AQ,eF,rfl,Da,yR,yQ⟩:=hc
 obtain⟨dR,uZ,uY,dD,rfl,xu,qM,qL⟩:=hh
 obtain⟨mr,J3,J2,mo,rfl,Nv,Iy,Ix⟩:=hr
 obtain⟨lK,J8,J6,kT,rfl,J7,EP,EO⟩:=Ds
 obtain⟨lL,Kb,J9,kU,rfl,Ka,ET,ES⟩:=HQ
 obtain⟨mv,Rh,Rf,lg,rfl,Rg,J5,J4⟩:=I6
 obtain⟨nz,C9,C8,mX,rfl,Ns,J1,J0⟩:=bM
 have Qd:=hV.rules.1
 have FP:=hV.before.1
 have HK:=hV.after.1
 have hnf:=hV.facts.1
 refine bC au [.l B] [] bn<|zD 2<|jn fun b7=>zD 6<|jl (b:=bf) (off:=0) (m:=1) (vs:=[zP f]) 0 ⟨_,_,_,.inl gf,rfl⟩<|zD 3<|jl (b:=f) (off:=0) (m:=13) (vs:=[c0,c1,c2,.slice eL K.cs.length eF,.slice dR hv.length dD,.slice mr K.rules.length mo,.slice lK K.before.length kT,.slice lL K.after.length kU,zI K.gone,zI K.new,zI K.af,.slice mv K.facts.length lg,.slice nz rows.length mX]) 6 ⟨_,_,_,.inl hf,rfl⟩<|zD 3<|zJ 18 ((a:Int)=(K.before.length:Int)) (fun h1=>?_) fun h1=>?_
 ·
  refine zD 2 ?_
  obtain rfl:n=0:=by omega
  refine zD 1<|jl (b:=br) (off:=0) (m:=1) (vs:=[.func (.func 99) ⟨[]⟩ ⟨[zP bf,zP bo]⟩]) 0 ⟨_,_,_,.inl gr,rfl⟩<|jd 1 [0]<|jp (vs:=[.agg ⟨[zI (p 0),zI (p 1),zI (p 2),zI (p 3)]⟩,zP bf,zP bo]) [] [] (fun aA hs hZ=>ap8 (hF.up hs) hV (hs _ _ gf) (hs _ _ go))<|zD 2<|js 23 (!(oJ on p K.facts 0)) (fun h2=>?_) (fun h2=>?_)
  ·
   have mz:=h2
   try simp only[zB] at mz
   refine zD 7<|aF q0 (.bool true) [] [1] B (Sub.refl _) ⟨_,_,rfl,rfl,_,rfl,(fun _=>by rw[show jM K on 0 a p=[] by simp only[jM,show oJ on p K.facts 0=false by simpa using h2];rfl];exact hB),nofun⟩
  have mz:=h2
  try simp only[zB] at mz
  have adW:jM K on 0 a p=[p]:=by simp only[jM,show oJ on p K.facts 0=true by simpa using h2];rfl
  have Ze:=Part.get (i:=0) (x:=p) hP (by rw[adW];rfl)
  refine jl (b:=bu) (off:=0) (m:=1) (vs:=[(.func (.yield bl) #[] #[])]) 0 ⟨_,_,_,.inl gy,rfl⟩<|jd 1 [0]<|jyc [1] (hy q [.agg ⟨[zI (p 0),zI (p 1),zI (p 2),zI (p 3)]⟩] [] B ro Ze.1 ⟨_,Ze.2,rfl,rfl⟩ hB (Sub.refl _)) (Sub.refl _) ?_
  intro v26 Y26 aNJ
  obtain⟨c26,rfl,aQq,aQd⟩:=yb aNJ
  refine zD 4<|aF q0 (.bool c26) [] [0] Y26 (Sub.refl _) ⟨_,_,rfl,rfl,_,rfl,(fun h=>by rw[adW];exact aQq h),aQd⟩
 refine zD 4 ?_
 obtain⟨m,rfl⟩:∃m,n=m+1:=⟨n-1,by omega⟩
 rw[qi] at hP
 refine zD 1<|jl (b:=bg) (off:=0) (m:=1) (vs:=[.func (.func 102) ⟨[]⟩ ⟨[zP bf,zP br,zP bu,zP bg,zP bt]⟩]) 0 ⟨_,_,_,.inl gg,rfl⟩<|jd 2 [0]<|ja ((a:Int)+1) (by omega)<|jc (vs:=[.agg ⟨[zI (p 0),zI (p 1),zI (p 2),zI (p 3)]⟩,zI ((a:Int)+1),zP bf,zP br,zP bu,zP bg,zP bt]) [1] (ih m (by omega) _ (a+1) p q _ oh hF (by omega) (Part.left hP) hB hy) ?_
 rintro _ Y32 ⟨c32,rfl,aQn,aQa⟩
 refine zD 2<|js 33 (!c32) (fun h3=>?_) (fun h3=>?_)
 ·
  try simp only[zB] at h3
  refine zD 6<|aF q0 (.bool false) [] [0] Y32 (Sub.refl _) ⟨_,_,rfl,rfl,_,rfl,nofun,fun _=>aQa (by simp_all)⟩
 try simp only[zB] at h3
 refine zD 5<|jl (b:=bf) (off:=0) (m:=1) (vs:=[zP f]) 0 ⟨_,_,_,.inl gf,rfl⟩<|zD 3<|jl (b:=f) (off:=0) (m:=13) (vs:=[c0,c1,c2,.slice eL K.cs.length eF,.slice dR hv.length dD,.slice mr K.rules.length mo,.slice lK K.before.length kT,.slice lL K.after.length kU,zI K.gone,zI K.new,zI K.af,.slice mv K.facts.length lg,.slice nz rows.length mX]) 7 ⟨_,_,_,.inl hf,rfl⟩<|zD 4<|eN [1,1,1,0,1,0,0] [] (fun(zz:Nat×(Nat→Int)×Cells)=>[(1,zI (a:Int)),(5,zP bg),(6,zP bt),(7,zP b7),(39,zI (K.after.length:Int)),(40,zI (zz.1:Int))]) (fun(zz:Nat×(Nat→Int)×Cells)=>[.b b7 (.cells ⟨[zI (zz.2.1 0),zI (zz.2.1 1),zI (zz.2.1 2),zI (zz.2.1 3)]⟩ 89 (0,0)),.l zz.2.2]) (fun(zz:Nat×(Nat→Int)×Cells)=>zz.1≤K.after.length∧Inv (q+(jM K on m (a+1) p).length+((List.range zz.1).flatMap (ng K on m a p)).length) zz.2.2∧∀i,i≠a→zz.2.1 i=p i) (fun(zz:Nat×(Nat→Int)×Cells)=>K.after.length-zz.1) (⟨0,p,Y32⟩) ⟨by dsimp only;omega,by have:=aQn (by simp_all);simpa using this,fun _ _=>rfl⟩ [1,0] ?_
 rintro⟨j,pp,B⟩ hJ K1 bF rest
 dsimp only at hJ
 refine zD 5<|zJ 41 ((j:Int) <(K.after.length:Int)) (fun h4=>?_) fun h4=>?_
 ·
  refine zD 11 ?_
  have ha4:a <4:=by omega
  have hj4:j <4:=by omega
  obtain⟨rr,hrr⟩:=WS (show j <K.after.length by omega)
  have hPj:=Part.flat (Part.right hP) hrr
  refine zD 3<|IZ (b:=bt) (off:=0) (len:=4) (sz:=4) (a:Int) (by omega)<|IZ (b:=bt) (off:=0+(a:Int).toNat*4) (len:=4) (sz:=1) (j:Int) (by omega)<|jl (b:=bt) (off:=0+(a:Int).toNat*4+(j:Int).toNat*1) (m:=1) (vs:=[.bool (cZ K on a j)]) 0 (sC (.inl gt) (Ug (r:=⟨cZ K on⟩) ha4 hj4))<|zD 2<|js 49 (!(cZ K on a j)) (fun h5=>?_) (fun h5=>?_)
  ·
   have Lg:=h5
   try simp only[zB] at Lg
   refine zD 10<|ja ((j:Int)+1) (by omega)<|zD 2<|bI bF (⟨j+1,pp,B⟩) ⟨by dsimp only;omega,by dsimp only;rw[List.range_succ,List.flatMap_append,List.length_append,List.flatMap_singleton,←Nat.add_assoc];rw[show ng K on m a p j=[] by simp only[ng,h5];rfl];exact hJ.2.1,hJ.2.2⟩ (by dsimp only;omega) [0,1] (Sub.refl _)
  have Lg:=h5
  try simp only[zB] at Lg
  refine zD 1<|jah (b:=b7) (off:=0) (len:=4) (a:Int) (by omega)<|zD 1<|ja ((j:Int)+1) (by omega)<|jp (vs:=[(.slice (some ⟨b7,0,none⟩) (a:Int).toNat 4),zI ((j:Int)+1)]) [0] [(b7,.cells ⟨[zI (pp 0),zI (pp 1),zI (pp 2),zI (pp 3)]⟩ 89 (0,0))] (fun aA hs hZ=>aNv (aie hZ.head (by omega)) (by rw[List.length_take];omega)) ?_
  refine zD 2<|js 55 (SA pp a ((j:Int)+1)) (fun h6=>?_) (fun h6=>?_)
  ·
   refine zD 3<|ja ((j:Int)+1) (by omega)<|zD 2<|bI bF (⟨j+1,pp,B⟩) ⟨by dsimp only;omega,by dsimp only;rw[List.range_succ,List.flatMap_append,List.length_append,List.flatMap_singleton,←Nat.add_assoc];rw[show ng K on m a p j=[] by simp only[ng,←Vy ha4 hJ.2.2,h5,h6];rfl];exact hJ.2.1,hJ.2.2⟩ (by dsimp only;omega) [0,1] (Sub.refl _)
  have hg0:ng K on m a p j=jM K on m (a+1) (pN p a ((j:Int)+1)):=by simp only[ng,←Vy ha4 hJ.2.2,h5,h6];rfl
  have hPg:Part L (q+(jM K on m (a+1) p).length+((List.range j).flatMap (ng K on m a p)).length) (jM K on m (a+1) (pN pp a ((j:Int)+1))):=by rw[TR hJ.2.2,←hg0];exact hPj
  refine zD 6<|ja ((j:Int)+1) (by omega)<|IZ (b:=b7) (off:=0) (len:=4) (sz:=1) (a:Int) (by omega)<|xH 0 b7 (0+(a:Int).toNat*1) [zI (pp 0),zI (pp 1),zI (pp 2),zI (pp 3)] [zI ((j:Int)+1)] 89 (by intro v hv;rw[List.mem_singleton] at hv;subst hv;rfl) (apw (p:=pp) ha4) ?_
  refine jmw 0 [.b b7 (.cells ⟨[zI ((pN pp a ((j:Int)+1)) 0),zI ((pN pp a ((j:Int)+1)) 1),zI ((pN pp a ((j:Int)+1)) 2),zI ((pN pp a ((j:Int)+1)) 3)]⟩ 89 (0,0))] (L:=[(b7,.cells ⟨dz [zI (pp 0),zI (pp 1),zI (pp 2),zI (pp 3)] (0+(a:Int).toNat*1) [zI ((j:Int)+1)]⟩ 89 (0,0))]) (by rw[apu ha4];rfl) ?_
  refine zD 3<|jl (b:=bg) (off:=0) (m:=1) (vs:=[.func (.func 102) ⟨[]⟩ ⟨[zP bf,zP br,zP bu,zP bg,zP bt]⟩]) 0 ⟨_,_,_,.inl gg,rfl⟩<|jd 2 [0]<|ja ((a:Int)+1) (by omega)<|jc (vs:=[.agg ⟨[zI ((pN pp a ((j:Int)+1)) 0),zI ((pN pp a ((j:Int)+1)) 1),zI ((pN pp a ((j:Int)+1)) 2),zI ((pN pp a ((j:Int)+1)) 3)]⟩,zI ((a:Int)+1),zP bf,zP br,zP bu,zP bg,zP bt]) [1] (ih m (by omega) _ (a+1) _ (q+(jM K on m (a+1) p).length+((List.range j).flatMap (ng K on m a p)).length) _ oh hF (by omega) hPg hJ.2.1 hy) ?_
  rintro _ Y64 ⟨VZ,rfl,aQk,aP8⟩
  refine zD 2<|js 65 (!VZ) (fun h7=>?_) (fun h7=>?_)
  ·
   try simp only[zB] at h7
   refine zD 6<|aF q0 (.bool false) [] [0] Y64 (Sub.refl _) ⟨_,_,rfl,rfl,_,rfl,nofun,fun _=>aP8 (by simp_all)⟩
  try simp only[zB] at h7
  refine zD 3<|ja ((j:Int)+1) (by omega)<|zD 2<|bI bF (⟨j+1,(pN pp a ((j:Int)+1)),Y64⟩) ⟨by dsimp only;omega,by dsimp only;rw[List.range_succ,List.flatMap_append,List.length_append,List.flatMap_singleton,←Nat.add_assoc];rw[hg0,←TR hJ.2.2];exact aQk (by simp_all),(fun i hi=>by simp only[pN,if_neg hi];exact hJ.2.2 i hi)⟩ (by dsimp only;omega) [1,0] (Sub.refl _)
 refine zD 7<|aF q0 (.bool true) [] [1] B (Sub.refl _) ⟨_,_,rfl,rfl,_,rfl,(fun _=>by rw[qi,List.length_append,←Nat.add_assoc];have:=hJ.2.1;rwa[show j=K.after.length by omega] at this),nofun⟩
theorem ay4(hV:gT K){rows:List bU}{on:Int}{L:List (Nat→Int)}{Inv:Nat→Cells→Prop}:∀n,anM bl f K rows on bf br bu bg bt bo L Inv Stop n:=by
 intro n
 induction n using Nat.strongRecOn with
 |_ n ih=>exact fun ro a p q B hc hF han hP hB hy=>aqs ih hV hc hF han hP hB hy
def dH(K:bk)(on:Int):List (Nat→Int):=jM K on K.before.length 0 fun _=>0
theorem VJ{on:Int}{a b:Nat}(h:¬a <K.before.length∨¬b <K.after.length):cZ K on a b=false:=by
 rcases h with h|h
 ·simp[cZ,List.getElem?_eq_none (Nat.le_of_not_lt h)]
 simp only[cZ,List.getElem?_eq_none (Nat.le_of_not_lt h)]
 split
 ·rename_i h1;cases h1
 rfl
def Dz(K:bk)(on:Int)(i j:Nat)(r:bU):Prop:=∀x y,r.c x y=((decide (x <i)||(decide (x=i)&&decide (y <j)))&&cZ K on x y)
theorem Dz.set{on:Int}{i j:Nat}{r:bU}(h:Dz K on i j r):Dz K on i (j+1) (iT r i j (cZ K on i j)):=fun x y=>by
 simp only[iT]
 split
 ·rename_i hx;obtain⟨rfl,rfl⟩:=hx;simp
 rename_i hx
 rw[h x y]
 congr 2
 by_cases e:x=i
 ·subst e
  have:y≠j:=fun e2=>hx ⟨rfl,e2⟩
  simp only[decide_true,Bool.true_and]
  congr 1
  exact propext (by omega)
 simp[e]
theorem Dz.nxt{on:Int}{i:Nat}{r:bU}(h:Dz K on i K.after.length r):Dz K on (i+1) 0 r:=fun x y=>by
 rw[h x y]
 by_cases hy:y <K.after.length
 ·congr 1
  simp only[hy,decide_true,Bool.and_true,Nat.not_lt_zero,decide_false,Bool.and_false,Bool.or_false]
  rw[Bool.eq_iff_iff];simp;omega
 rw[VJ (.inr hy)];simp
theorem Dz.fin{on:Int}{r:bU}(h:Dz K on K.before.length 0 r):r=⟨cZ K on⟩:=by
 rcases r with ⟨c⟩
 congr 1
 funext x y
 have:=h x y
 dsimp only at this
 rw[this]
 by_cases hx:x <K.before.length
 ·simp[hx]
 rw[VJ (.inl hx)];simp
theorem aiH{a:Nat}(h:a <4):nth (eP4 p) ((a:Int).toNat*1)=some (zI (p a)):=by
 rcases Kz h with rfl|rfl|rfl|rfl<;>rfl
theorem aaF{r:bU}{a:Nat}{j:Int}(h:a <4)(k:0≤j∧j <4):nth (BX r) (0+(a:Int).toNat*4+j.toNat*1)=some (.bool (r.c a j.toNat)):=by
 obtain⟨m,rfl⟩:=Int.eq_ofNat_of_zero_le k.1
 exact Ug h (by omega)
def Hz(r:bU)(p:Nat→Int):Nat→Int
 |0=>0
 |k+1=>Hz r p k+bif decide (p k>0)&& !r.c k (p k-1).toNat then 1 else 0
def dS(K:bk)(r:bU)(past:Nat)(p:Nat→Int):ay:=⟨past,p 0,p 1,p 2,p 3,K.before.length-vq (pL p),K.after.length-vq (pL p),Hz r p 4⟩
theorem Uw(p:Nat→Int):0≤vq (pL p)∧vq (pL p)≤4:=by
 have:=List.length_filter_le (fun x=>decide (x>0)) (pL p)
 simp only[vq]
 exact⟨by omega,by simp only[List.length_cons,List.length_nil] at this;omega⟩
theorem U3{rows:List bU}{on:Int}{b1 b2:Nat}{ro:Nat→Option Obj}(hF:pF ro f K rows)(hV:gT K)(g1:ro b1=some (.cells ⟨[zP f]⟩ 80 (0,0)))(g2:ro b2=some (.cells ⟨[.func (.func 99) ⟨[]⟩ ⟨[zP b1,zP b4]⟩]⟩ 200 (0,0)))(g3:ro b3=some (.cells ⟨BX ⟨cZ K on⟩⟩ 127 (0,0)))(g4:ro b4=some (.cells ⟨[.int .u8 on]⟩ 85 (0,0))):ItX zT 101 [] [zP b1,zP b2,zP b3] ro [] (dH K on).length (ePs (dH K on)) (fun Z=>Z=[]):=by
 intro bl aA Inv Stop hs hy B hB
 replace g1:=hs _ _ g1
 replace g2:=hs _ _ g2
 replace g3:=hs _ _ g3
 replace g4:=hs _ _ g4
 replace hF:=hF.up hs
 refine bC au [.l B] [] bn<|zD 2<|jn fun b4=>zD 3<|jn fun b5=>jd 9 [0,0]<|jf [1,0] ((b4,.cells ⟨[(.func (.yield bl) #[] #[])]⟩ 200 (0,0))::[(b5,.cells ⟨[.func (.func 102) ⟨[]⟩ ⟨[zP b1,zP b2,zP b4,zP b5,zP b3]⟩]⟩ 201 (0,0))]) fun AM bW jC=>jc (vs:=[.agg ⟨[zI 0,zI 0,zI 0,zI 0]⟩,zI 0,zP b1,zP b2,zP b4,zP b5,zP b3]) [0] (ay4 (K:=K) hV (on:=on) _ _ 0 (fun _=>0) 0 _ ⟨(bW _ _ g1),(bW _ _ g2),jC _ (.head _),jC _ (.tail _ (.head _)),(bW _ _ g3),bW _ _ g4⟩ (hF.up bW) (Nat.zero_add _) ⟨[],[],by simp[dH],rfl⟩ hB (YO.up hy bW)) ?_
 rintro _ Y9 ⟨c9,rfl,hc9,hd9⟩
 refine zD 1<|aF q0.a (.tuple ⟨[]⟩) [] [0] Y9 bW ⟨_,_,rfl,rfl,[],Y9,rfl,rfl,by cases c9 with|true=>exact .inl (by simpa [dH] using hc9 rfl)|false=>exact .inr (hd9 rfl)⟩
theorem IV{rows:List bU}{on:Int}{ro:Nat→Option Obj}(hF:pF ro f K rows)(hV:gT K):eG zT 55 [zP f,.int .u8 on] ro [] (fun r Y=>∃b1 b2 b3 b4,r= .func (.func 101) ⟨[]⟩ ⟨[zP b1,zP b2,zP b3]⟩∧Y=[(b1,.cells ⟨[zP f]⟩ 80 (0,0)),(b2,.cells ⟨[.func (.func 99) ⟨[]⟩ ⟨[zP b1,zP b4]⟩]⟩ 200 (0,0)),(b3,.cells ⟨BX ⟨cZ K on⟩⟩ 127 (0,0)),(b4,.cells ⟨[.int .u8 on]⟩ 85 (0,0))]):=by
 obtain⟨c0,c1,c2,vc,vh,vr,vb,va,vf,vt,hv,hf,rO,oF,hr,Ds,HQ,I6,bM⟩:=id hF
 obtain⟨hc,hh,cY⟩:=id rO
 obtain⟨eL,AR,AQ,eF,rfl,Da,yR,yQ⟩:=hc
 obtain⟨dR,uZ,uY,dD,rfl,xu,qM,qL⟩:=hh
 obtain⟨mr,J3,J2,mo,rfl,Nv,Iy,Ix⟩:=hr
 obtain⟨lK,J8,J6,kT,rfl,J7,EP,EO⟩:=Ds
 obtain⟨lL,Kb,J9,kU,rfl,Ka,ET,ES⟩:=HQ
 obtain⟨mv,Rh,Rf,lg,rfl,Rg,J5,J4⟩:=I6
 obtain⟨nz,C9,C8,mX,rfl,Ns,J1,J0⟩:=bM
 have Qd:=hV.rules.1
 have FP:=hV.before.1
 have HK:=hV.after.1
 have hnf:=hV.facts.1
 refine bC au [] [] bn<|zD 2<|jn fun b2=>jn fun b3=>zD 4<|jn fun b5=>jd 8 [2]<|jl (b:=f) (off:=0) (m:=13) (vs:=[c0,c1,c2,.slice eL K.cs.length eF,.slice dR hv.length dD,.slice mr K.rules.length mo,.slice lK K.before.length kT,.slice lL K.after.length kU,zI K.gone,zI K.new,zI K.af,.slice mv K.facts.length lg,.slice nz rows.length mX]) 6 ⟨_,_,_,.inl hf,rfl⟩<|zD 4<|eN [1,1,0,1,0,0] [] (fun(zz:Nat×bU)=>[(2,zP b2),(3,zP b3),(4,.nilFunc),(5,zP b5),(14,zI (K.before.length:Int)),(15,zI (zz.1:Int))]) (fun(zz:Nat×bU)=>[.b b5 (.cells ⟨[.bool (zz.2.c 0 0),.bool (zz.2.c 0 1),.bool (zz.2.c 0 2),.bool (zz.2.c 0 3),.bool (zz.2.c 1 0),.bool (zz.2.c 1 1),.bool (zz.2.c 1 2),.bool (zz.2.c 1 3),.bool (zz.2.c 2 0),.bool (zz.2.c 2 1),.bool (zz.2.c 2 2),.bool (zz.2.c 2 3),.bool (zz.2.c 3 0),.bool (zz.2.c 3 1),.bool (zz.2.c 3 2),.bool (zz.2.c 3 3)]⟩ 127 (0,0)),.b b3 (.cells ⟨[.int .u8 on]⟩ 85 (0,0)),.b b2 (.cells ⟨[zP f]⟩ 80 (0,0))]) (fun(zz:Nat×bU)=>zz.1≤K.before.length∧Dz K on zz.1 0 zz.2) (fun(zz:Nat×bU)=>K.before.length-zz.1) (⟨0,⟨fun _ _=>false⟩⟩) ⟨by dsimp only;omega,fun x y=>by simp⟩ [0,1,2] ?_
 rintro⟨i,r⟩ hI K1 bF rest
 dsimp only at hI
 refine zD 5<|zJ 16 ((i:Int) <(K.before.length:Int)) (fun h1=>?_) fun h1=>?_
 ·
  refine jd 15 [2]<|jl (b:=f) (off:=0) (m:=13) (vs:=[c0,c1,c2,.slice eL K.cs.length eF,.slice dR hv.length dD,.slice mr K.rules.length mo,.slice lK K.before.length kT,.slice lL K.after.length kU,zI K.gone,zI K.new,zI K.af,.slice mv K.facts.length lg,.slice nz rows.length mX]) 7 ⟨_,_,_,.inl hf,rfl⟩<|zD 4<|eN [1,1,0,1,0,0,1,1,0,0,1,1,0,0] [K1] (fun(zz:Nat×bU)=>[(2,zP b2),(3,zP b3),(4,.nilFunc),(5,zP b5),(6,zI (i:Int)),(14,zI (K.before.length:Int)),(15,zI (i:Int)),(23,zI (K.after.length:Int)),(24,zI (zz.1:Int))]) (fun(zz:Nat×bU)=>[.b b5 (.cells ⟨[.bool (zz.2.c 0 0),.bool (zz.2.c 0 1),.bool (zz.2.c 0 2),.bool (zz.2.c 0 3),.bool (zz.2.c 1 0),.bool (zz.2.c 1 1),.bool (zz.2.c 1 2),.bool (zz.2.c 1 3),.bool (zz.2.c 2 0),.bool (zz.2.c 2 1),.bool (zz.2.c 2 2),.bool (zz.2.c 2 3),.bool (zz.2.c 3 0),.bool (zz.2.c 3 1),.bool (zz.2.c 3 2),.bool (zz.2.c 3 3)]⟩ 127 (0,0)),.b b3 (.cells ⟨[.int .u8 on]⟩ 85 (0,0)),.b b2 (.cells ⟨[zP f]⟩ 80 (0,0))]) (fun(zz:Nat×bU)=>zz.1≤K.after.length∧Dz K on i zz.1 zz.2) (fun(zz:Nat×bU)=>K.after.length-zz.1) (⟨0,r⟩) ⟨by dsimp only;omega,hI.2⟩ [0,1,2] ?_
  rintro⟨j,r⟩ hJ K2 mL rest
  dsimp only at hJ
  refine zD 5<|zJ 25 ((j:Int) <(K.after.length:Int)) (fun h2=>?_) fun h2=>?_
  ·
   refine zD 9 ?_
   obtain⟨x,ha⟩:∃x,K.before[i]?=some x:=⟨_,List.getElem?_eq_getElem (by omega)⟩
   obtain⟨y,hb⟩:∃y,K.after[j]?=some y:=⟨_,List.getElem?_eq_getElem (by omega)⟩
   refine jd 7 [2,1]<|IZ (b:=b5) (off:=0) (len:=4) (sz:=4) (i:Int) (by omega)<|jp (vs:=[zP f,zI (i:Int),zI (j:Int),.int .u8 on]) [] [] (fun aA hs hZ=>ay5 (hF.up hs) hV ha hb)<|IZ (b:=b5) (off:=0+(i:Int).toNat*4) (len:=4) (sz:=1) (j:Int) (by omega)<|aH 9 fun rZ si qG=>xH 0 b5 (0+(i:Int).toNat*4+(j:Int).toNat*1) [.bool (r.c 0 0),.bool (r.c 0 1),.bool (r.c 0 2),.bool (r.c 0 3),.bool (r.c 1 0),.bool (r.c 1 1),.bool (r.c 1 2),.bool (r.c 1 3),.bool (r.c 2 0),.bool (r.c 2 1),.bool (r.c 2 2),.bool (r.c 2 3),.bool (r.c 3 0),.bool (r.c 3 1),.bool (r.c 3 2),.bool (r.c 3 3)] [.bool (cZ K on i j)] 127 (by intro v hv;rw[List.mem_singleton] at hv;subst hv;rfl) (Uh (r:=r) (by omega) (by omega)) ?_
   refine jmw 0 [.b b5 (.cells ⟨[.bool ((iT r i j (cZ K on i j)).c 0 0),.bool ((iT r i j (cZ K on i j)).c 0 1),.bool ((iT r i j (cZ K on i j)).c 0 2),.bool ((iT r i j (cZ K on i j)).c 0 3),.bool ((iT r i j (cZ K on i j)).c 1 0),.bool ((iT r i j (cZ K on i j)).c 1 1),.bool ((iT r i j (cZ K on i j)).c 1 2),.bool ((iT r i j (cZ K on i j)).c 1 3),.bool ((iT r i j (cZ K on i j)).c 2 0),.bool ((iT r i j (cZ K on i j)).c 2 1),.bool ((iT r i j (cZ K on i j)).c 2 2),.bool ((iT r i j (cZ K on i j)).c 2 3),.bool ((iT r i j (cZ K on i j)).c 3 0),.bool ((iT r i j (cZ K on i j)).c 3 1),.bool ((iT r i j (cZ K on i j)).c 3 2),.bool ((iT r i j (cZ K on i j)).c 3 3)]⟩ 127 (0,0))] (L:=[(b5,.cells ⟨dz [.bool (r.c 0 0),.bool (r.c 0 1),.bool (r.c 0 2),.bool (r.c 0 3),.bool (r.c 1 0),.bool (r.c 1 1),.bool (r.c 1 2),.bool (r.c 1 3),.bool (r.c 2 0),.bool (r.c 2 1),.bool (r.c 2 2),.bool (r.c 2 3),.bool (r.c 3 0),.bool (r.c 3 1),.bool (r.c 3 2),.bool (r.c 3 3)] (0+(i:Int).toNat*4+(j:Int).toNat*1) [.bool (cZ K on i j)]⟩ 127 (0,0))]) (by rw[Uf (by omega) (by omega)];rfl) ?_
   refine iM qG []<|zD 2<|ja ((j:Int)+1) (by omega)<|zD 2<|bI mL (⟨j+1,(iT r i j (cZ K on i j))⟩) ⟨by dsimp only;omega,hJ.2.set⟩ (by dsimp only;omega) [0,1,2] (Sub.refl _)
  refine zD 3<|ja ((i:Int)+1) (by omega)<|zD 2<|bI bF (⟨i+1,r⟩) ⟨by dsimp only;omega,Dz.nxt (by have:=hJ.2;rwa[show j=K.after.length by omega] at this)⟩ (by dsimp only;omega) [0,1,2] (Sub.refl _)
 refine zD 5<|jn fun b8=>jd 8 [0]<|aF q0 (.func (.func 101) ⟨[]⟩ ⟨[zP b2,zP b8,zP b5]⟩) [] [3,0,1,2] ((b2,.cells ⟨[zP f]⟩ 80 (0,0))::((b8,.cells ⟨[.func (.func 99) ⟨[]⟩ ⟨[zP b2,zP b3]⟩]⟩ 200 (0,0))::((b5,.cells ⟨[.bool (r.c 0 0),.bool (r.c 0 1),.bool (r.c 0 2),.bool (r.c 0 3),.bool (r.c 1 0),.bool (r.c 1 1),.bool (r.c 1 2),.bool (r.c 1 3),.bool (r.c 2 0),.bool (r.c 2 1),.bool (r.c 2 2),.bool (r.c 2 3),.bool (r.c 3 0),.bool (r.c 3 1),.bool (r.c 3 2),.bool (r.c 3 3)]⟩ 127 (0,0))::[(b3,.cells ⟨[.int .u8 on]⟩ 85 (0,0))]))) (Sub.refl _) ⟨_,_,rfl,rfl,_,_,_,_,rfl,by have e:=Dz.fin (K:=K) (on:=on) (r:=r) (by have:=hI.2;rwa[show i=K.before.length by omega] at this);subst e;rfl⟩
theorem amv{rows:List bU}{Hq:bU}{ro:Nat→Option Obj}(hF:pF ro f K rows)(hV:gT K)(BH:rows[past]?=some Hq) (hp:∀i,0≤p i∧p i≤4):dL zT 56 [zP f,zI (past:Int),.agg ⟨[zI (p 0),zI (p 1),zI (p 2),zI (p 3)]⟩] ro (.agg ⟨cN (dS K Hq past p)⟩):=by
 obtain⟨c0,c1,c2,vc,vh,vr,vb,va,vf,vt,hv,hf,rO,oF,hr,Ds,HQ,I6,bM⟩:=id hF
 obtain⟨hc,hh,cY⟩:=id rO
 obtain⟨eL,AR,AQ,eF,rfl,Da,yR,yQ⟩:=hc
 obtain⟨dR,uZ,uY,dD,rfl,xu,qM,qL⟩:=hh
 obtain⟨mr,J3,J2,mo,rfl,Nv,Iy,Ix⟩:=hr
 obtain⟨lK,J8,J6,kT,rfl,J7,EP,EO⟩:=Ds
 obtain⟨lL,Kb,J9,kU,rfl,Ka,ET,ES⟩:=HQ
 obtain⟨mv,Rh,Rf,lg,rfl,Rg,J5,J4⟩:=I6
 obtain⟨nz,C9,C8,mX,rfl,Ns,J1,J0⟩:=bM
 have Qd:=hV.rules.1
 have FP:=hV.before.1
 have HK:=hV.after.1
 have hnf:=hV.facts.1
 have hpc:=Uw p
 have Qb:=(List.getElem?_eq_some_iff.1 BH).1
 refine bC au [] [] bn<|zD 2<|jn fun b5=>jn fun b6=>jd 4 [1]<|jp (vs:=[.agg ⟨[zI (p 0),zI (p 1),zI (p 2),zI (p 3)]⟩]) [] [] (fun aA hs hZ=>(ap9 (p0:=p 0) (p1:=p 1) (p2:=p 2) (p3:=p 3)))<|jd 10 [1]<|jl (b:=f) (off:=0) (m:=13) (vs:=[c0,c1,c2,.slice eL K.cs.length eF,.slice dR hv.length dD,.slice mr K.rules.length mo,.slice lK K.before.length kT,.slice lL K.after.length kU,zI K.gone,zI K.new,zI K.af,.slice mv K.facts.length lg,.slice nz rows.length mX]) 6 ⟨_,_,_,.inl hf,rfl⟩<|zD 2<|ja ((K.before.length:Int)-(vq (pL p))) (by omega)<|zD 4<|jl (b:=f) (off:=0) (m:=13) (vs:=[c0,c1,c2,.slice eL K.cs.length eF,.slice dR hv.length dD,.slice mr K.rules.length mo,.slice lK K.before.length kT,.slice lL K.after.length kU,zI K.gone,zI K.new,zI K.af,.slice mv K.facts.length lg,.slice nz rows.length mX]) 7 ⟨_,_,_,.inl hf,rfl⟩<|zD 2<|ja ((K.after.length:Int)-(vq (pL p))) (by omega)<|zD 1<|aH 19 fun CY C4 AT=>jn fun b8=>bw AT [1,2]<|aH 20 fun AY A6 Ad=>jd 1 [0]<|cM Ad<|jd 8 [2]<|eN [1,1,1,0,1,0,0] [] (fun(zz:Nat×Int)=>[(0,zP f),(1,zI (past:Int)),(6,zP b6),(8,zP b8),(32,.agg ⟨[zI (p 0),zI (p 1),zI (p 2),zI (p 3)]⟩),(33,zI (zz.1:Int))]) (fun(zz:Nat×Int)=>[.b b8 (.cells ⟨[zI (past:Int),zI (p 0),zI (p 1),zI (p 2),zI (p 3),zI ((K.before.length:Int)-(vq (pL p))),zI ((K.after.length:Int)-(vq (pL p))),zI zz.2]⟩ 91 (0,0)),.b b6 (.cells ⟨[zI 0,zI 0,zI 0,zI 0,zI 0,zI 0,zI 0,zI 0]⟩ 91 (0,0))]) (fun(zz:Nat×Int)=>zz.1≤4∧zz.2=Hz Hq p zz.1∧(0≤zz.2∧zz.2≤zz.1)) (fun(zz:Nat×Int)=>4-zz.1) (⟨0,0⟩) ⟨by dsimp only;omega,rfl,by dsimp only;omega⟩ [0,1] ?_
 rintro⟨k,m⟩ hI K3 Zi rest
 dsimp only at hI
 refine zD 5<|zJ 34 ((k:Int) <4) (fun h3=>?_) fun h3=>?_
 ·
  refine zD 7<|jai (l:=[zI (p 0),zI (p 1),zI (p 2),zI (p 3)]) (k:Int) 4 1 false (by omega) (v:= zI (p k)) (show nth (eP4 p) _=_ from aiH (by omega))<|zD 4 ?_
  have hpk:=hp k
  refine zD 4<|js 39 (decide ((p k)>0)) (fun h4=>?_) (fun h4=>?_)
  ·
   have xN:=h4
   replace xN:=of_decide_eq_true xN
   refine zD 3<|jl (b:=f) (off:=0) (m:=13) (vs:=[c0,c1,c2,.slice eL K.cs.length eF,.slice dR hv.length dD,.slice mr K.rules.length mo,.slice lK K.before.length kT,.slice lL K.after.length kU,zI K.gone,zI K.new,zI K.af,.slice mv K.facts.length lg,.slice nz rows.length mX]) 12 ⟨_,_,_,.inl hf,rfl⟩<|zD 3<|ja ((p k)-1) (by omega) ?_
   obtain⟨x48,FB⟩:=zG rows past
   refine iW mX 16 J1 FB<|IZ (b:=C9) (off:=C8+past*16+0) (len:=4) (sz:=4) (k:Int) (by omega)<|IZ (b:=C9) (off:=C8+past*16+0+(k:Int).toNat*4) (len:=4) (sz:=1) ((p k)-1) (by omega)<|jl (b:=C9) (off:=C8+past*16+0+(k:Int).toNat*4+((p k)-1).toNat*1) (m:=1) (vs:=[.bool (x48.c k ((p k)-1).toNat)]) 0 (show cg ⟨ro,[]⟩ C9 (C8+past*16+0+(k:Int).toNat*4+((p k)-1).toNat*1) 1 [.bool (x48.c k ((p k)-1).toNat)] from by have:=aaQ (J0 _ _ FB) (aaF (r:=x48) (a:=k) (j:=(p k)-1) (by omega) (by omega));simpa [Nat.add_assoc] using this) ?_
   refine zD 3<|js 53 (!(x48.c k ((p k)-1).toNat)) (fun h5=>?_) (fun h5=>?_)
   ·
    try simp only[zB] at h5
    refine jd 4 [0]<|ja (m+1) (by omega)<|jd 4 [0]<|ja ((k:Int)+1) (by omega)<|zD 2<|bI Zi (⟨k+1,(m+1)⟩) ⟨by dsimp only;omega,by dsimp only;rw[Hz,hI.2.1];rw[BH] at FB;cases FB;simp only[decide_eq_true xN,h5,Bool.not_false,Bool.not_true,Bool.and_true,Bool.and_false,cond_true,cond_false,Int.add_zero],by dsimp only;omega⟩ (by dsimp only;omega) [0,1] (Sub.refl _)
   try simp only[zB] at h5
   refine zD 3<|ja ((k:Int)+1) (by omega)<|zD 2<|bI Zi (⟨k+1,m⟩) ⟨by dsimp only;omega,by dsimp only;rw[Hz,hI.2.1];rw[BH] at FB;cases FB;simp only[decide_eq_true xN,h5,Bool.not_false,Bool.not_true,Bool.and_true,Bool.and_false,cond_true,cond_false,Int.add_zero],by dsimp only;omega⟩ (by dsimp only;omega) [0,1] (Sub.refl _)
  have xN:=h4
  replace xN:=of_decide_eq_false xN
  refine zD 18<|ja ((k:Int)+1) (by omega)<|zD 2<|bI Zi (⟨k+1,m⟩) ⟨by dsimp only;omega,by dsimp only;rw[Hz,hI.2.1];simp only[decide_eq_false xN,Bool.false_and,cond_false,Int.add_zero],by dsimp only;omega⟩ (by dsimp only;omega) [0,1] (Sub.refl _)
 refine jd 8 [0,1]<|aF q0 (.agg ⟨[zI (past:Int),zI (p 0),zI (p 1),zI (p 2),zI (p 3),zI ((K.before.length:Int)-(vq (pL p))),zI ((K.after.length:Int)-(vq (pL p))),zI m]⟩) [1] [] [] (Sub.refl _) ⟨_,_,rfl,rfl,by rw[hI.2.1,show k=4 by omega];rfl,rfl⟩
def wI(v:Value)(xs:List ay)(Y:Cells):Prop:=∃ys,ys.Perm xs∧az v 8 91 cN ys Y
def gJ(xs:List ay):Prop:=∀x∈xs,0≤x.past∧x.past≤1000
theorem gJ.perm{xs ys:List ay}(h:gJ xs)(hp:ys.Perm xs):gJ ys:=fun x hx=>h x (hp.mem_iff.1 hx)
theorem Ea{x:Int}(h:0≤x∧x≤1000000000):IntKind.i64.wrap (aQ .u64 (IntKind.u64.wrap x) 1)=x / 2:=by
 have h1:IntKind.u64.wrap x=x:=r8 .u64 rfl _ (by omega) (by simp[IntKind.bits];omega)
 rw[h1]
 have h2:aQ .u64 x 1=x / 2:=by
  show x.fdiv 2=x / 2
  exact Int.fdiv_eq_ediv_of_nonneg _ (by decide)
 rw[h2,kD _ (by omega)]
theorem ajz{x y:ay}{ro:Nat→Option Obj}(hx:0≤x.past∧x.past≤1000)(hy:0≤y.past∧y.past≤1000):dL zT 60 [.agg ⟨[zI x.past,zI x.w0,zI x.w1,zI x.w2,zI x.w3,zI x.gone,zI x.new,zI x.af]⟩,.agg ⟨[zI y.past,zI y.w0,zI y.w1,zI y.w2,zI y.w3,zI y.gone,zI y.new,zI y.af]⟩] ro (zI (x.past-y.past)):=by
 refine bC au [] [] bn<|zD 2<|jn fun b2=>jn fun b3=>jd 8 [1,0]<|ja (x.past-y.past) (by omega)<|zD 3<|aF q0 (zI (x.past-y.past)) [] [] [] (Sub.refl _) ⟨_,_,rfl,rfl,rfl,rfl⟩
theorem axh{v:Value}{xs:List ay}{L:Cells}{a:Int}{ro:Nat→Option Obj}(ho:az v 8 91 cN xs L)(hN:xs.length≤100000)(hP:gJ xs)(Eb:0≤a∧a≤b∧b≤xs.length):eG zT 134 [v,zI a,zI b,.func (.func 60) ⟨[]⟩ ⟨[]⟩] ro L (fun r Y=>wI v xs Y):=by
 refine bC au [.l L] [] bn<|zD 3<|ja (a+1) (by omega)<|zD 3<|eN [1,0,0] [] (fun(zz:Int×(List ay)×Cells)=>[(0,v),(1,zI a),(2,zI b),(3,.func (.func 60) ⟨[]⟩ ⟨[]⟩),(8,zI zz.1)]) (fun(zz:Int×(List ay)×Cells)=>[.l zz.2.2]) (fun(zz:Int×(List ay)×Cells)=>(a+1≤zz.1)∧az v 8 91 cN zz.2.1 zz.2.2∧zz.2.1.Perm xs) (fun(zz:Int×(List ay)×Cells)=>(b-zz.1).toNat) (⟨(a+1),xs,L⟩) ⟨by dsimp only;omega,ho,.refl _⟩ [0] ?_
 rintro⟨i,ys,L⟩ hI K1 bF rest
 dsimp only at hI
 have Vb:=hI.2.2.length_eq
 have hyp:=hP.perm hI.2.2
 refine zD 7<|zJ 14 (i <b) (fun h1=>?_) fun h1=>?_
 ·
  refine zD 10<|eN [1,0,0,1,0,0,1,0,0] [K1] (fun(zz:Int×(List ay)×Cells)=>[(0,v),(1,zI a),(2,zI b),(3,.func (.func 60) ⟨[]⟩ ⟨[]⟩),(8,zI i),(9,zI zz.1)]) (fun(zz:Int×(List ay)×Cells)=>[.l zz.2.2]) (fun(zz:Int×(List ay)×Cells)=>(a≤zz.1∧zz.1≤i)∧az v 8 91 cN zz.2.1 zz.2.2∧zz.2.1.Perm xs) (fun(zz:Int×(List ay)×Cells)=>(zz.1-a).toNat) (⟨i,ys,L⟩) ⟨by dsimp only;omega,hI.2⟩ [0] ?_
  rintro⟨j,ys,L⟩ hJ K2 mL rest
  dsimp only at hJ
  have Vb:=hJ.2.2.length_eq
  have hyp:=hP.perm hJ.2.2
  refine zD 7<|js 3 (decide (j>a)) (fun h2=>?_) (fun h2=>?_)
  ·
   have mz:=h2
   replace mz:=of_decide_eq_true mz
   refine zD 3 ?_
   obtain⟨xX,lq⟩:=zG ys (j.toNat) (by first|omega| (simp only[List.length_set];omega))
   refine p5 j 8 hJ.2.1 lq (Int.toNat_of_nonneg (show 0≤j∧j <((ys).length:Int) from (by first|omega| (simp only[List.length_set];omega))).1).symm (fun dW aee=>?_)
   refine oV 0 [0] L (fun s _ hZ=>cv hJ.2.1 aee hZ lq)<|zD 2<|ja (j-1) (by omega) ?_
   obtain⟨oE,jZ⟩:=zG ys ((j-1).toNat) (by first|omega| (simp only[List.length_set];omega))
   refine p5 (j-1) 8 hJ.2.1 jZ (Int.toNat_of_nonneg (show 0≤(j-1)∧(j-1) <((ys).length:Int) from (by first|omega| (simp only[List.length_set];omega))).1).symm (fun b30 Sz=>?_)
   refine oV 0 [0] L (fun s _ hZ=>cv hJ.2.1 Sz hZ jZ)<|aH 14 fun rZ si qG=>jp (vs:=[.agg ⟨[zI xX.past,zI xX.w0,zI xX.w1,zI xX.w2,zI xX.w3,zI xX.gone,zI xX.new,zI xX.af]⟩,.agg ⟨[zI oE.past,zI oE.w0,zI oE.w1,zI oE.w2,zI oE.w3,zI oE.gone,zI oE.new,zI oE.af]⟩]) [] [] (fun aA hs hZ=>(ajz (x:=xX) (y:=oE) (hyp _ (List.mem_of_getElem? lq)) (hyp _ (List.mem_of_getElem? jZ))))<|bw qG [0]<|zD 3<|zJ 34 ((xX.past-oE.past) <0) (fun h4=>?_) fun h4=>?_
   ·
    refine zD 9<|ja (j-1) (by omega)<|zD 2<|ja (j-1) (by omega) ?_
    obtain⟨xp,Dj⟩:=zG ys ((j-1).toNat) (by first|omega| (simp only[List.length_set];omega))
    refine p5 (j-1) 8 hJ.2.1 Dj (Int.toNat_of_nonneg (show 0≤(j-1)∧(j-1) <((ys).length:Int) from (by first|omega| (simp only[List.length_set];omega))).1).symm (fun b45 aed=>?_)
    refine oV 0 [0] L (fun s _ hZ=>cv hJ.2.1 aed hZ Dj)<|zD 2 ?_
    obtain⟨Hj,Di⟩:=zG ys (j.toNat) (by first|omega| (simp only[List.length_set];omega))
    refine p5 j 8 hJ.2.1 Di (Int.toNat_of_nonneg (show 0≤j∧j <((ys).length:Int) from (by first|omega| (simp only[List.length_set];omega))).1).symm (fun b49 aec=>?_)
    refine oV 0 [0] L (fun s _ hZ=>cv hJ.2.1 aec hZ Di) ?_
    obtain⟨x51,Dh⟩:=zG ys (j.toNat) (by first|omega| (simp only[List.length_set];omega))
    refine p5 j 8 hJ.2.1 Dh (Int.toNat_of_nonneg (show 0≤j∧j <((ys).length:Int) from (by first|omega| (simp only[List.length_set];omega))).1).symm (fun b51 aeb=>?_)
    refine aH 15 fun tw tz rP=>P7 0 0 [zI xp.past,zI xp.w0,zI xp.w1,zI xp.w2,zI xp.w3,zI xp.gone,zI xp.new,zI xp.af] xp hJ.2.1 aeb Dh rfl rfl (Nat.le_of_ble_eq_true rfl) fun L6 XQ=>iM rP [] ?_
    obtain⟨x52,BG⟩:=zG ((ys.set j.toNat xp)) ((j-1).toNat) (by first|omega| (simp only[List.length_set];omega))
    refine p5 (j-1) 8 XQ BG (Int.toNat_of_nonneg (show 0≤(j-1)∧(j-1) <(((ys.set j.toNat xp)).length:Int) from (by first|omega| (simp only[List.length_set];omega))).1).symm (fun b52 aea=>?_)
    refine aH 17 fun AX A5 BO=>P7 0 0 [zI Hj.past,zI Hj.w0,zI Hj.w1,zI Hj.w2,zI Hj.w3,zI Hj.gone,zI Hj.new,zI Hj.af] Hj XQ aea BG rfl rfl (Nat.le_of_ble_eq_true rfl) fun L9 adC=>cM BO<|zD 3<|ja (j-1) (by omega)<|zD 2<|bI mL (⟨(j-1),((ys.set j.toNat xp).set ((j-1).toNat) Hj),L9⟩) ⟨by dsimp only;omega,adC,(nA Di Dj).trans hJ.2.2⟩ (by dsimp only;omega) [0] (Sub.refl _)
   refine zD 4<|ja (i+1) (by omega)<|zD 2<|bI bF (⟨(i+1),ys,L⟩) ⟨by dsimp only;omega,hJ.2⟩ (by dsimp only;omega) [0] (Sub.refl _)
  have mz:=h2
  replace mz:=of_decide_eq_false mz
  refine zD 18<|ja (i+1) (by omega)<|zD 2<|bI bF (⟨(i+1),ys,L⟩) ⟨by dsimp only;omega,hJ.2⟩ (by dsimp only;omega) [0] (Sub.refl _)
 refine zD 2<|aF q0 (.tuple ⟨[]⟩) [] [0] L (Sub.refl _) ⟨_,_,rfl,rfl,ys,hI.2.2,hI.2.1⟩
def aFt(n:Nat):Prop:=∀(ro:Nat→Option Obj) (v:Value) (xs:List ay) (L:Cells) (a m b:Int),az v 8 91 cN xs L→xs.length≤100000→gJ xs→(0≤a∧a <m∧m <b∧b≤xs.length)→(b-a).toNat=n→
 eG zT 135 [v,zI a,zI m,zI b,.func (.func 60) ⟨[]⟩ ⟨[]⟩] ro L (fun _ Y=>wI v xs Y)
theorem aaD{v:Value}{xs:List ay}{L:Cells}{a n:Int}{ro:Nat→Option Obj}(ho:az v 8 91 cN xs L)(hN:xs.length≤100000)(hP:gJ xs)(Eb:(0≤a∧0≤b∧0≤n)∧a+n≤xs.length∧b+n≤xs.length∧a≠b):eG zT 196 [v,zI a,zI b,zI n,.func (.func 60) ⟨[]⟩ ⟨[]⟩] ro L (fun r Y=>wI v xs Y):=by
 refine bC au [.l L] [] bn<|zD 5<|eN [1,0,0] [] (fun(zz:Int×(List ay)×Cells)=>[(0,v),(1,zI a),(2,zI b),(3,zI n),(10,zI zz.1)]) (fun(zz:Int×(List ay)×Cells)=>[.l zz.2.2]) (fun(zz:Int×(List ay)×Cells)=>(0≤zz.1∧zz.1≤n)∧az v 8 91 cN zz.2.1 zz.2.2∧zz.2.1.Perm xs) (fun(zz:Int×(List ay)×Cells)=>(n-zz.1).toNat) (⟨0,xs,L⟩) ⟨by dsimp only;omega,ho,.refl _⟩ [0] ?_
 rintro⟨i,ys,L⟩ hI K1 bF rest
 dsimp only at hI
 have Vb:=hI.2.2.length_eq
 have hyp:=hP.perm hI.2.2
 refine zD 7<|zJ 13 (i <n) (fun h1=>?_) fun h1=>?_
 ·
  refine zD 8<|ja (a+i) (by omega)<|zD 3<|ja (b+i) (by omega)<|zD 3<|ja (b+i) (by omega) ?_
  obtain⟨Wm,aqN⟩:=zG ys ((b+i).toNat) (by first|omega| (simp only[List.length_set];omega))
  refine p5 (b+i) 8 hI.2.1 aqN (Int.toNat_of_nonneg (show 0≤(b+i)∧(b+i) <((ys).length:Int) from (by first|omega| (simp only[List.length_set];omega))).1).symm (fun b28 aQN=>?_)
  refine oV 0 [0] L (fun s _ hZ=>cv hI.2.1 aQN hZ aqN)<|zD 3<|ja (a+i) (by omega) ?_
  obtain⟨Wl,HG⟩:=zG ys ((a+i).toNat) (by first|omega| (simp only[List.length_set];omega))
  refine p5 (a+i) 8 hI.2.1 HG (Int.toNat_of_nonneg (show 0≤(a+i)∧(a+i) <((ys).length:Int) from (by first|omega| (simp only[List.length_set];omega))).1).symm (fun b34 aQK=>?_)
  refine oV 0 [0] L (fun s _ hZ=>cv hI.2.1 aQK hZ HG) ?_
  obtain⟨x36,yw⟩:=zG ys ((a+i).toNat) (by first|omega| (simp only[List.length_set];omega))
  refine p5 (a+i) 8 hI.2.1 yw (Int.toNat_of_nonneg (show 0≤(a+i)∧(a+i) <((ys).length:Int) from (by first|omega| (simp only[List.length_set];omega))).1).symm (fun dJ asE=>?_)
  refine aH 21 fun AY A6 Ad=>P7 0 0 [zI Wm.past,zI Wm.w0,zI Wm.w1,zI Wm.w2,zI Wm.w3,zI Wm.gone,zI Wm.new,zI Wm.af] Wm hI.2.1 asE yw rfl rfl (Nat.le_of_ble_eq_true rfl) fun L3 ho4=>iM Ad [] ?_
  obtain⟨x37,XI⟩:=zG ((ys.set ((a+i).toNat) Wm)) ((b+i).toNat) (by first|omega| (simp only[List.length_set];omega))
  refine p5 (b+i) 8 ho4 XI (Int.toNat_of_nonneg (show 0≤(b+i)∧(b+i) <(((ys.set ((a+i).toNat) Wm)).length:Int) from (by first|omega| (simp only[List.length_set];omega))).1).symm (fun b37 aQI=>?_)
  refine aH 23 fun rZ si qG=>P7 0 0 [zI Wl.past,zI Wl.w0,zI Wl.w1,zI Wl.w2,zI Wl.w3,zI Wl.gone,zI Wl.new,zI Wl.af] Wl ho4 aQI XI rfl rfl (Nat.le_of_ble_eq_true rfl) fun L6 XQ=>cM qG<|zD 3<|ja (i+1) (by omega)<|zD 2<|bI bF (⟨(i+1),((ys.set ((a+i).toNat) Wm).set ((b+i).toNat) Wl),L6⟩) ⟨by dsimp only;omega,XQ,(nA HG aqN).trans hI.2.2⟩ (by dsimp only;omega) [0] (Sub.refl _)
 refine zD 2<|aF q0 (.tuple ⟨[]⟩) [] [0] L (Sub.refl _) ⟨_,_,rfl,rfl,ys,hI.2.2,hI.2.1⟩
theorem aLj{v:Value}{xs:List ay}{L:Cells}{a m:Int}{ro:Nat→Option Obj}(ho:az v 8 91 cN xs L)(hN:xs.length≤100000)(hP:gJ xs)(Eb:0≤a∧a <m∧m <b∧b≤xs.length):eG zT 161 [v,zI a,zI m,zI b,.func (.func 60) ⟨[]⟩ ⟨[]⟩] ro L (fun r Y=>wI v xs Y):=by
 refine bC au [.l L] [] bn<|zD 4<|ja (m-a) (by omega)<|zD 6<|ja (b-m) (by omega)<|zD 4<|eN [1,1,0,0,0] [] (fun(zz:Int×Int×(List ay)×Cells)=>[(0,v),(2,zI m),(4,.func (.func 60) ⟨[]⟩ ⟨[]⟩),(10,zI zz.1),(11,zI zz.2.1)]) (fun(zz:Int×Int×(List ay)×Cells)=>[.l zz.2.2.2]) (fun(zz:Int×Int×(List ay)×Cells)=>((0 <zz.1∧zz.1≤m-a)∧0 <zz.2.1∧zz.2.1≤b-m)∧az v 8 91 cN zz.2.2.1 zz.2.2.2∧zz.2.2.1.Perm xs) (fun(zz:Int×Int×(List ay)×Cells)=>(zz.1+zz.2.1).toNat) (⟨(m-a),(b-m),xs,L⟩) ⟨by dsimp only;omega,ho,.refl _⟩ [0] ?_
 rintro⟨i,j,ys,L⟩ hI K1 bF rest
 dsimp only at hI
 have Vb:=hI.2.2.length_eq
 have hyp:=hP.perm hI.2.2
 refine zD 7<|js 20 (!decide (i=j)) (fun h1=>?_) (fun h1=>?_)
 ·
  replace h1:=of_decide_eq_false (by simpa using h1)
  refine zD 9<|zJ 23 (i>j) (fun h2=>?_) fun h2=>?_
  ·
   refine zD 6<|ja (m-i) (by omega)<|zD 3<|jc (vs:=[v,zI (m-i),zI m,zI j,.func (.func 60) ⟨[]⟩ ⟨[]⟩]) [0] (aaD hI.2.1 (by omega) hyp (by omega)) ?_
   rintro aZW Y31 ⟨aIE,arf,aOP⟩
   have aWg:=arf.length_eq
   have aV9:=gJ.perm hyp arf
   refine zD 4<|ja (i-j) (by omega)<|zD 2<|bI bF (⟨(i-j),j,aIE,Y31⟩) ⟨by dsimp only;omega,aOP,(arf.trans hI.2.2)⟩ (by dsimp only;omega) [0] (Sub.refl _)
  refine zD 6<|ja (m-i) (by omega)<|zD 2<|ja (m+j) (by omega)<|zD 1<|ja ((m+j)-i) (by omega)<|zD 2<|jc (vs:=[v,zI (m-i),zI ((m+j)-i),zI i,.func (.func 60) ⟨[]⟩ ⟨[]⟩]) [0] (aaD hI.2.1 (by omega) hyp (by omega)) ?_
  rintro aZU Y46 ⟨aIC,ard,aOL⟩
  have aWe:=ard.length_eq
  have aV7:=gJ.perm hyp ard
  refine zD 4<|ja (j-i) (by omega)<|zD 2<|bI bF (⟨i,(j-i),aIC,Y46⟩) ⟨by dsimp only;omega,aOL,(ard.trans hI.2.2)⟩ (by dsimp only;omega) [0] (Sub.refl _)
 replace h1:=of_decide_eq_true (by simpa using h1)
 refine zD 6<|ja (m-i) (by omega)<|zD 3<|jc (vs:=[v,zI (m-i),zI m,zI i,.func (.func 60) ⟨[]⟩ ⟨[]⟩]) [0] (aaD hI.2.1 (by omega) hyp (by omega)) ?_
 rintro aZT Y57 ⟨aY8,arb,ajV⟩
 have aWd:=arb.length_eq
 have aV6:=gJ.perm hyp arb
 refine zD 1<|aF q0 (.tuple ⟨[]⟩) [] [0] Y57 (Sub.refl _) ⟨_,_,rfl,rfl,_,(arb.trans hI.2.2),ajV⟩
theorem axe{v:Value}{xs:List ay}{L:Cells}{a m:Int}{ro:Nat→Option Obj}(ih:∀k,k <n→aFt k)(ho:az v 8 91 cN xs L)(hN:xs.length≤100000)(hP:gJ xs)(Eb:0≤a∧a <m∧m <b∧b≤xs.length)(hn:(b-a).toNat=n):eG zT 135 [v,zI a,zI m,zI b,.func (.func 60) ⟨[]⟩ ⟨[]⟩] ro L (fun r Y=>wI v xs Y):=by
 refine bC au [.l L] [] bn<|zD 5<|ja (m-a) (by omega)<|zD 2<|zJ 28 ((m-a)=1) (fun h1=>?_) fun h1=>?_
 ·
  refine zD 13<|eN [0,1,0,1,1,0,0,0] [] (fun(zz:Int×Int)=>[(0,v),(1,zI a),(2,zI m),(3,zI b),(4,.func (.func 60) ⟨[]⟩ ⟨[]⟩),(10,zI zz.1),(11,zI zz.2)]) (fun(zz:Int×Int)=>[.l L]) (fun(zz:Int×Int)=>(m≤zz.1∧zz.1≤zz.2)∧zz.2≤b) (fun(zz:Int×Int)=>(zz.2-zz.1).toNat) (⟨m,b⟩) (by dsimp only;omega) [0] ?_
  rintro⟨i,j⟩ hI K1 bF rest
  dsimp only at hI
  refine zD 7<|zJ 33 (i <j) (fun h2=>?_) fun h2=>?_
  ·
   refine zD 7<|ja (i+j) (by omega)<|zD 6 ?_
   have hh:=Ea (x:=i+j) (by omega)
   refine zD 4 ?_
   obtain⟨x43,aqK⟩:=zG xs ((IntKind.i64.wrap (aQ .u64 (IntKind.u64.wrap (i+j)) 1)).toNat) (by first|omega| (simp only[List.length_set];omega))
   refine p5 (IntKind.i64.wrap (aQ .u64 (IntKind.u64.wrap (i+j)) 1)) 8 ho aqK (Int.toNat_of_nonneg (show 0≤(IntKind.i64.wrap (aQ .u64 (IntKind.u64.wrap (i+j)) 1))∧(IntKind.i64.wrap (aQ .u64 (IntKind.u64.wrap (i+j)) 1)) <((xs).length:Int) from (by first|omega| (simp only[List.length_set];omega))).1).symm (fun b43 aQE=>?_)
   refine oV 0 [0] L (fun s _ hZ=>cv ho aQE hZ aqK)<|zD 2 ?_
   obtain⟨Zy,RS⟩:=zG xs (a.toNat) (by first|omega| (simp only[List.length_set];omega))
   refine p5 a 8 ho RS (Int.toNat_of_nonneg (show 0≤a∧a <((xs).length:Int) from (by first|omega| (simp only[List.length_set];omega))).1).symm (fun b47 aQD=>?_)
   refine oV 0 [0] L (fun s _ hZ=>cv ho aQD hZ RS)<|aH 9 fun AY A6 Ad=>jp (vs:=[.agg ⟨[zI x43.past,zI x43.w0,zI x43.w1,zI x43.w2,zI x43.w3,zI x43.gone,zI x43.new,zI x43.af]⟩,.agg ⟨[zI Zy.past,zI Zy.w0,zI Zy.w1,zI Zy.w2,zI Zy.w3,zI Zy.gone,zI Zy.new,zI Zy.af]⟩]) [] [] (fun aA hs hZ=>(ajz (x:=x43) (y:=Zy) (hP _ (List.mem_of_getElem? aqK)) (hP _ (List.mem_of_getElem? RS))))<|bw Ad [0]<|zD 2<|zJ 50 ((x43.past-Zy.past) <0) (fun h4=>?_) fun h4=>?_
   ·
    refine zD 3<|ja ((IntKind.i64.wrap (aQ .u64 (IntKind.u64.wrap (i+j)) 1))+1) (by omega)<|zD 2<|bI bF (⟨((IntKind.i64.wrap (aQ .u64 (IntKind.u64.wrap (i+j)) 1))+1),j⟩) (by dsimp only;omega) (by dsimp only;omega) [0] (Sub.refl _)
   refine zD 5<|bI bF (⟨i,(IntKind.i64.wrap (aQ .u64 (IntKind.u64.wrap (i+j)) 1))⟩) (by dsimp only;omega) (by dsimp only;omega) [0] (Sub.refl _)
  refine zD 9<|eN [0,1,0,1,1,1,0,1,0,0] [] (fun(zz:Int×(List ay)×Cells)=>[(0,v),(1,zI a),(2,zI m),(3,zI b),(4,.func (.func 60) ⟨[]⟩ ⟨[]⟩),(10,zI i),(13,zI zz.1)]) (fun(zz:Int×(List ay)×Cells)=>[.l zz.2.2]) (fun(zz:Int×(List ay)×Cells)=>a≤zz.1∧az v 8 91 cN zz.2.1 zz.2.2∧zz.2.1.Perm xs) (fun(zz:Int×(List ay)×Cells)=>(i-zz.1).toNat) (⟨a,xs,L⟩) ⟨by dsimp only;omega,ho,.refl _⟩ [0] ?_
  rintro⟨k,ys,L⟩ hJ K3 Zi rest
  dsimp only at hJ
  have Vb:=hJ.2.2.length_eq
  have hyp:=hP.perm hJ.2.2
  refine zD 5<|ja (i-1) (by omega)<|zD 2<|zJ 58 (k <(i-1)) (fun h5=>?_) fun h5=>?_
  ·
   refine zD 9<|ja (k+1) (by omega)<|zD 2<|ja (k+1) (by omega) ?_
   obtain⟨Qs,XH⟩:=zG ys ((k+1).toNat) (by first|omega| (simp only[List.length_set];omega))
   refine p5 (k+1) 8 hJ.2.1 XH (Int.toNat_of_nonneg (show 0≤(k+1)∧(k+1) <((ys).length:Int) from (by first|omega| (simp only[List.length_set];omega))).1).symm (fun b69 asC=>?_)
   refine oV 0 [0] L (fun s _ hZ=>cv hJ.2.1 asC hZ XH)<|zD 2 ?_
   obtain⟨x73,XG⟩:=zG ys (k.toNat) (by first|omega| (simp only[List.length_set];omega))
   refine p5 k 8 hJ.2.1 XG (Int.toNat_of_nonneg (show 0≤k∧k <((ys).length:Int) from (by first|omega| (simp only[List.length_set];omega))).1).symm (fun b73 aQy=>?_)
   refine oV 0 [0] L (fun s _ hZ=>cv hJ.2.1 aQy hZ XG) ?_
   obtain⟨x75,RR⟩:=zG ys (k.toNat) (by first|omega| (simp only[List.length_set];omega))
   refine p5 k 8 hJ.2.1 RR (Int.toNat_of_nonneg (show 0≤k∧k <((ys).length:Int) from (by first|omega| (simp only[List.length_set];omega))).1).symm (fun b75 aQw=>?_)
   refine aH 15 fun tw tz rP=>P7 0 0 [zI Qs.past,zI Qs.w0,zI Qs.w1,zI Qs.w2,zI Qs.w3,zI Qs.gone,zI Qs.new,zI Qs.af] Qs hJ.2.1 aQw RR rfl rfl (Nat.le_of_ble_eq_true rfl) fun L7 ho8=>iM rP [] ?_
   obtain⟨x76,azn⟩:=zG ((ys.set k.toNat Qs)) ((k+1).toNat) (by first|omega| (simp only[List.length_set];omega))
   refine p5 (k+1) 8 ho8 azn (Int.toNat_of_nonneg (show 0≤(k+1)∧(k+1) <(((ys.set k.toNat Qs)).length:Int) from (by first|omega| (simp only[List.length_set];omega))).1).symm (fun b76 aQv=>?_)
   refine aH 17 fun AX A5 BO=>P7 0 0 [zI x73.past,zI x73.w0,zI x73.w1,zI x73.w2,zI x73.w3,zI x73.gone,zI x73.new,zI x73.af] x73 ho8 aQv azn rfl rfl (Nat.le_of_ble_eq_true rfl) fun L10 arq=>cM BO<|zD 3<|ja (k+1) (by omega)<|zD 2<|bI Zi (⟨(k+1),((ys.set k.toNat Qs).set ((k+1).toNat) x73),L10⟩) ⟨by dsimp only;omega,arq,(nA XG XH).trans hJ.2.2⟩ (by dsimp only;omega) [0] (Sub.refl _)
  refine zD 3<|aF q0 (.tuple ⟨[]⟩) [] [0] L (Sub.refl _) ⟨_,_,rfl,rfl,_,hJ.2.2,hJ.2.1⟩
 refine zD 7<|ja (b-m) (by omega)<|zD 2<|zJ 80 ((b-m)=1) (fun AU=>?_) fun AU=>?_
 ·
  refine zD 13<|eN [1,0,1,0,1,1,0,0,0] [] (fun(zz:Int×Int)=>[(0,v),(1,zI a),(2,zI m),(3,zI b),(4,.func (.func 60) ⟨[]⟩ ⟨[]⟩),(14,zI zz.1),(15,zI zz.2)]) (fun(zz:Int×Int)=>[.l L]) (fun(zz:Int×Int)=>(a≤zz.1∧zz.1≤zz.2)∧zz.2≤m) (fun(zz:Int×Int)=>(zz.2-zz.1).toNat) (⟨a,m⟩) (by dsimp only;omega) [0] ?_
  rintro⟨i,j⟩ hI K6 hK6 rest
  dsimp only at hI
  refine zD 7<|zJ 85 (i <j) (fun wX=>?_) fun wX=>?_
  ·
   refine zD 7<|ja (i+j) (by omega)<|zD 6 ?_
   have hh:=Ea (x:=i+j) (by omega)
   refine zD 4 ?_
   obtain⟨x95,aqI⟩:=zG xs (m.toNat) (by first|omega| (simp only[List.length_set];omega))
   refine p5 m 8 ho aqI (Int.toNat_of_nonneg (show 0≤m∧m <((xs).length:Int) from (by first|omega| (simp only[List.length_set];omega))).1).symm (fun b95 aQt=>?_)
   refine oV 0 [0] L (fun s _ hZ=>cv ho aQt hZ aqI)<|zD 2 ?_
   obtain⟨x99,aqH⟩:=zG xs ((IntKind.i64.wrap (aQ .u64 (IntKind.u64.wrap (i+j)) 1)).toNat) (by first|omega| (simp only[List.length_set];omega))
   refine p5 (IntKind.i64.wrap (aQ .u64 (IntKind.u64.wrap (i+j)) 1)) 8 ho aqH (Int.toNat_of_nonneg (show 0≤(IntKind.i64.wrap (aQ .u64 (IntKind.u64.wrap (i+j)) 1))∧(IntKind.i64.wrap (aQ .u64 (IntKind.u64.wrap (i+j)) 1)) <((xs).length:Int) from (by first|omega| (simp only[List.length_set];omega))).1).symm (fun b99 aQs=>?_)
   refine oV 0 [0] L (fun s _ hZ=>cv ho aQs hZ aqH)<|aH 9 fun Zp aaa O2=>jp (vs:=[.agg ⟨[zI x95.past,zI x95.w0,zI x95.w1,zI x95.w2,zI x95.w3,zI x95.gone,zI x95.new,zI x95.af]⟩,.agg ⟨[zI x99.past,zI x99.w0,zI x99.w1,zI x99.w2,zI x99.w3,zI x99.gone,zI x99.new,zI x99.af]⟩]) [] [] (fun aA hs hZ=>(ajz (x:=x95) (y:=x99) (hP _ (List.mem_of_getElem? aqI)) (hP _ (List.mem_of_getElem? aqH))))<|bw O2 [0]<|zD 3<|js 103 (!(decide ((x95.past-x99.past) <0))) (fun Gb=>?_) (fun Gb=>?_)
   ·
    try simp only[zB] at Gb
    refine zD 3<|ja ((IntKind.i64.wrap (aQ .u64 (IntKind.u64.wrap (i+j)) 1))+1) (by omega)<|zD 2<|bI hK6 (⟨((IntKind.i64.wrap (aQ .u64 (IntKind.u64.wrap (i+j)) 1))+1),j⟩) (by dsimp only;omega) (by dsimp only;omega) [0] (Sub.refl _)
   try simp only[zB] at Gb
   refine zD 5<|bI hK6 (⟨i,(IntKind.i64.wrap (aQ .u64 (IntKind.u64.wrap (i+j)) 1))⟩) (by dsimp only;omega) (by dsimp only;omega) [0] (Sub.refl _)
  refine zD 9<|eN [1,0,1,0,1,1,1,0,1,0,0] [] (fun(zz:Int×(List ay)×Cells)=>[(0,v),(1,zI a),(2,zI m),(3,zI b),(4,.func (.func 60) ⟨[]⟩ ⟨[]⟩),(14,zI i),(17,zI zz.1)]) (fun(zz:Int×(List ay)×Cells)=>[.l zz.2.2]) (fun(zz:Int×(List ay)×Cells)=>(a≤i∧zz.1≤m)∧az v 8 91 cN zz.2.1 zz.2.2∧zz.2.1.Perm xs) (fun(zz:Int×(List ay)×Cells)=>(zz.1-i).toNat) (⟨m,xs,L⟩) ⟨by dsimp only;omega,ho,.refl _⟩ [0] ?_
  rintro⟨k,ys,L⟩ hJ K8 hK8 rest
  dsimp only at hJ
  have Vb:=hJ.2.2.length_eq
  have hyp:=hP.perm hJ.2.2
  refine zD 7<|zJ 110 (k>i) (fun Lh=>?_) fun Lh=>?_
  ·
   refine zD 9<|ja (k-1) (by omega)<|zD 2<|ja (k-1) (by omega) ?_
   obtain⟨A0,acS⟩:=zG ys ((k-1).toNat) (by first|omega| (simp only[List.length_set];omega))
   refine p5 (k-1) 8 hJ.2.1 acS (Int.toNat_of_nonneg (show 0≤(k-1)∧(k-1) <((ys).length:Int) from (by first|omega| (simp only[List.length_set];omega))).1).symm (fun beD aBm=>?_)
   refine oV 0 [0] L (fun s _ hZ=>cv hJ.2.1 aBm hZ acS)<|zD 2 ?_
   obtain⟨Hm,acR⟩:=zG ys (k.toNat) (by first|omega| (simp only[List.length_set];omega))
   refine p5 k 8 hJ.2.1 acR (Int.toNat_of_nonneg (show 0≤k∧k <((ys).length:Int) from (by first|omega| (simp only[List.length_set];omega))).1).symm (fun beC aBl=>?_)
   refine oV 0 [0] L (fun s _ hZ=>cv hJ.2.1 aBl hZ acR) ?_
   obtain⟨aZf,amy⟩:=zG ys (k.toNat) (by first|omega| (simp only[List.length_set];omega))
   refine p5 k 8 hJ.2.1 amy (Int.toNat_of_nonneg (show 0≤k∧k <((ys).length:Int) from (by first|omega| (simp only[List.length_set];omega))).1).symm (fun beB aBk=>?_)
   refine aH 15 fun Zn Z6 X7=>P7 0 0 [zI A0.past,zI A0.w0,zI A0.w1,zI A0.w2,zI A0.w3,zI A0.gone,zI A0.new,zI A0.af] A0 hJ.2.1 aBk amy rfl rfl (Nat.le_of_ble_eq_true rfl) fun L18 aAb=>iM X7 [] ?_
   obtain⟨aZe,acQ⟩:=zG ((ys.set k.toNat A0)) ((k-1).toNat) (by first|omega| (simp only[List.length_set];omega))
   refine p5 (k-1) 8 aAb acQ (Int.toNat_of_nonneg (show 0≤(k-1)∧(k-1) <(((ys.set k.toNat A0)).length:Int) from (by first|omega| (simp only[List.length_set];omega))).1).symm (fun Mf aBj=>?_)
   refine aH 17 fun H5 Ia vN=>P7 0 0 [zI Hm.past,zI Hm.w0,zI Hm.w1,zI Hm.w2,zI Hm.w3,zI Hm.gone,zI Hm.new,zI Hm.af] Hm aAb aBj acQ rfl rfl (Nat.le_of_ble_eq_true rfl) fun L21 aOR=>cM vN<|zD 3<|ja (k-1) (by omega)<|zD 2<|bI hK8 (⟨(k-1),((ys.set k.toNat A0).set ((k-1).toNat) Hm),L21⟩) ⟨by dsimp only;omega,aOR,(nA acR acS).trans hJ.2.2⟩ (by dsimp only;omega) [0] (Sub.refl _)
  refine zD 3<|aF q0 (.tuple ⟨[]⟩) [] [0] L (Sub.refl _) ⟨_,_,rfl,rfl,_,hJ.2.2,hJ.2.1⟩
 refine zD 6<|ja (a+b) (by omega)<|zD 6 ?_
 have bcK:=Ea (x:=a+b) (by omega)
 refine zD 3<|ja ((IntKind.i64.wrap (aQ .u64 (IntKind.u64.wrap (a+b)) 1))+m) (by omega)<|zD 14<|HD [1,1,1,1,1,1] [] (fun(zz:Int×Int)=>[(0,v),(1,zI a),(2,zI m),(3,zI b),(4,.func (.func 60) ⟨[]⟩ ⟨[]⟩),(18,zI (IntKind.i64.wrap (aQ .u64 (IntKind.u64.wrap (a+b)) 1))),(19,zI ((IntKind.i64.wrap (aQ .u64 (IntKind.u64.wrap (a+b)) 1))+m)),(20,zI zz.1),(21,zI zz.2)]) (fun(zz:Int×Int)=>[.l L]) (fun(zz:Int×Int)=>(a≤zz.1∧zz.1≤zz.2)∧zz.2≤b∧a≤((IntKind.i64.wrap (aQ .u64 (IntKind.u64.wrap (a+b)) 1))+m)-zz.2∧((IntKind.i64.wrap (aQ .u64 (IntKind.u64.wrap (a+b)) 1))+m)-zz.1≤b) ?_ (fun K11 aDC=>?_)
 ·
  rintro⟨s0,r0⟩ hC rest
  dsimp only at hC
  refine zD 3<|ja (((IntKind.i64.wrap (aQ .u64 (IntKind.u64.wrap (a+b)) 1))+m)-1) (by omega)<|zD 4<|eN [1,1,1,1,1,1,1,0,0,0] [] (fun(zz:Int×Int)=>[(0,v),(1,zI a),(2,zI m),(3,zI b),(4,.func (.func 60) ⟨[]⟩ ⟨[]⟩),(18,zI (IntKind.i64.wrap (aQ .u64 (IntKind.u64.wrap (a+b)) 1))),(19,zI ((IntKind.i64.wrap (aQ .u64 (IntKind.u64.wrap (a+b)) 1))+m)),(20,zI zz.1),(21,zI zz.2),(22,zI (((IntKind.i64.wrap (aQ .u64 (IntKind.u64.wrap (a+b)) 1))+m)-1))]) (fun(zz:Int×Int)=>[.l L]) (fun(zz:Int×Int)=>(a≤zz.1∧zz.1≤zz.2)∧zz.2≤b∧a≤((IntKind.i64.wrap (aQ .u64 (IntKind.u64.wrap (a+b)) 1))+m)-zz.2∧((IntKind.i64.wrap (aQ .u64 (IntKind.u64.wrap (a+b)) 1))+m)-zz.1≤b) (fun(zz:Int×Int)=>(zz.2-zz.1).toNat) (⟨s0,r0⟩) hC [0] ?_
  rintro⟨sx,r⟩ hK K12 aDB rest
  dsimp only at hK
  refine zD 7<|zJ 151 (sx <r) (fun Ec=>?_) fun Ec=>?_
  ·
   refine zD 7<|ja (sx+r) (by omega)<|zD 6 ?_
   have hsr:=Ea (x:=sx+r) (by omega)
   refine zD 5<|ja ((((IntKind.i64.wrap (aQ .u64 (IntKind.u64.wrap (a+b)) 1))+m)-1)-(IntKind.i64.wrap (aQ .u64 (IntKind.u64.wrap (sx+r)) 1))) (by omega) ?_
   obtain⟨Hl,acN⟩:=zG xs (((((IntKind.i64.wrap (aQ .u64 (IntKind.u64.wrap (a+b)) 1))+m)-1)-(IntKind.i64.wrap (aQ .u64 (IntKind.u64.wrap (sx+r)) 1))).toNat) (by first|omega| (simp only[List.length_set];omega))
   refine p5 ((((IntKind.i64.wrap (aQ .u64 (IntKind.u64.wrap (a+b)) 1))+m)-1)-(IntKind.i64.wrap (aQ .u64 (IntKind.u64.wrap (sx+r)) 1))) 8 ho acN (Int.toNat_of_nonneg (show 0≤((((IntKind.i64.wrap (aQ .u64 (IntKind.u64.wrap (a+b)) 1))+m)-1)-(IntKind.i64.wrap (aQ .u64 (IntKind.u64.wrap (sx+r)) 1)))∧((((IntKind.i64.wrap (aQ .u64 (IntKind.u64.wrap (a+b)) 1))+m)-1)-(IntKind.i64.wrap (aQ .u64 (IntKind.u64.wrap (sx+r)) 1))) <((xs).length:Int) from (by first|omega| (simp only[List.length_set];omega))).1).symm (fun bez aBh=>?_)
   refine oV 0 [0] L (fun s _ hZ=>cv ho aBh hZ acN)<|zD 2 ?_
   obtain⟨Hk,acM⟩:=zG xs ((IntKind.i64.wrap (aQ .u64 (IntKind.u64.wrap (sx+r)) 1)).toNat) (by first|omega| (simp only[List.length_set];omega))
   refine p5 (IntKind.i64.wrap (aQ .u64 (IntKind.u64.wrap (sx+r)) 1)) 8 ho acM (Int.toNat_of_nonneg (show 0≤(IntKind.i64.wrap (aQ .u64 (IntKind.u64.wrap (sx+r)) 1))∧(IntKind.i64.wrap (aQ .u64 (IntKind.u64.wrap (sx+r)) 1)) <((xs).length:Int) from (by first|omega| (simp only[List.length_set];omega))).1).symm (fun bey aBg=>?_)
   refine oV 0 [0] L (fun s _ hZ=>cv ho aBg hZ acM)<|aH 11 fun alz alT F4=>jp (vs:=[.agg ⟨[zI Hl.past,zI Hl.w0,zI Hl.w1,zI Hl.w2,zI Hl.w3,zI Hl.gone,zI Hl.new,zI Hl.af]⟩,.agg ⟨[zI Hk.past,zI Hk.w0,zI Hk.w1,zI Hk.w2,zI Hk.w3,zI Hk.gone,zI Hk.new,zI Hk.af]⟩]) [] [] (fun aA hs hZ=>(ajz (x:=Hl) (y:=Hk) (hP _ (List.mem_of_getElem? acN)) (hP _ (List.mem_of_getElem? acM))))<|bw F4 [0]<|zD 3<|js 171 (!(decide ((Hl.past-Hk.past) <0))) (fun h25=>?_) (fun h25=>?_)
   ·
    try simp only[zB] at h25
    refine zD 3<|ja ((IntKind.i64.wrap (aQ .u64 (IntKind.u64.wrap (sx+r)) 1))+1) (by omega)<|zD 2<|bI aDB (⟨((IntKind.i64.wrap (aQ .u64 (IntKind.u64.wrap (sx+r)) 1))+1),r⟩) (by dsimp only;omega) (by dsimp only;omega) [0] (Sub.refl _)
   try simp only[zB] at h25
   refine zD 5<|bI aDB (⟨sx,(IntKind.i64.wrap (aQ .u64 (IntKind.u64.wrap (sx+r)) 1))⟩) (by dsimp only;omega) (by dsimp only;omega) [0] (Sub.refl _)
  refine zD 6<|ja (((IntKind.i64.wrap (aQ .u64 (IntKind.u64.wrap (a+b)) 1))+m)-sx) (by omega)<|zD 9<|jj 4 [(0,v),(1,zI a),(2,zI m),(3,zI b),(4,.func (.func 60) ⟨[]⟩ ⟨[]⟩),(18,zI (IntKind.i64.wrap (aQ .u64 (IntKind.u64.wrap (a+b)) 1))),(20,zI sx),(24,zI (((IntKind.i64.wrap (aQ .u64 (IntKind.u64.wrap (a+b)) 1))+m)-sx)),(185,.bool ((decide (sx <m))&&(decide (m <(((IntKind.i64.wrap (aQ .u64 (IntKind.u64.wrap (a+b)) 1))+m)-sx)))))] (fun gZ=>?_) (fun hj=>?_)
  rotate_left
  refine js 181 (decide (sx <m)) (fun Ye=>?_) (fun Ye=>?_)
  ·
   have aeZ:=Ye
   replace aeZ:=of_decide_eq_true aeZ
   refine zD 4<|jw 185 (.bool ((decide (sx <m))&&(decide (m <(((IntKind.i64.wrap (aQ .u64 (IntKind.u64.wrap (a+b)) 1))+m)-sx))))) (w:= .bool (decide (m <(((IntKind.i64.wrap (aQ .u64 (IntKind.u64.wrap (a+b)) 1))+m)-sx)))) (by rw[Ye]<;>rfl) ?_
   exact hj _ (by kernel_rfl) (by kernel_rfl)
  ·
   have aeZ:=Ye
   replace aeZ:=of_decide_eq_false aeZ
   refine zD 4<|jw 185 (.bool ((decide (sx <m))&&(decide (m <(((IntKind.i64.wrap (aQ .u64 (IntKind.u64.wrap (a+b)) 1))+m)-sx))))) (w:= .bool false) (by rw[Ye]<;>rfl) ?_
   exact hj _ (by kernel_rfl) (by kernel_rfl)
  refine zD 1<|HD [1,1,1,1,1,1,1,1,1,1] [] (fun(zz:(List ay)×Cells)=>[(0,v),(1,zI a),(3,zI b),(4,.func (.func 60) ⟨[]⟩ ⟨[]⟩),(18,zI (IntKind.i64.wrap (aQ .u64 (IntKind.u64.wrap (a+b)) 1))),(20,zI sx),(24,zI (((IntKind.i64.wrap (aQ .u64 (IntKind.u64.wrap (a+b)) 1))+m)-sx))]) (fun(zz:(List ay)×Cells)=>[.l zz.2]) (fun(zz:(List ay)×Cells)=>zz.1.Perm xs∧az v 8 91 cN zz.1 zz.2) ?_ (fun K14 Yb=>?_)
  ·
   rintro⟨ys,L⟩ hA rest
   dsimp only at hA
   have Vb:=hA.1.length_eq
   have hyp:=hP.perm hA.1
   refine zD 7<|jj 4 [(0,v),(1,zI a),(3,zI b),(4,.func (.func 60) ⟨[]⟩ ⟨[]⟩),(18,zI (IntKind.i64.wrap (aQ .u64 (IntKind.u64.wrap (a+b)) 1))),(20,zI sx),(24,zI (((IntKind.i64.wrap (aQ .u64 (IntKind.u64.wrap (a+b)) 1))+m)-sx)),(199,.bool ((decide (a <sx))&&(decide (sx <(IntKind.i64.wrap (aQ .u64 (IntKind.u64.wrap (a+b)) 1))))))] (fun gZ=>?_) (fun hj=>?_)
   rotate_left
   refine js 195 (decide (a <sx)) (fun h27=>?_) (fun h27=>?_)
   ·
    have aeY:=h27
    replace aeY:=of_decide_eq_true aeY
    refine zD 4<|jw 199 (.bool ((decide (a <sx))&&(decide (sx <(IntKind.i64.wrap (aQ .u64 (IntKind.u64.wrap (a+b)) 1)))))) (w:= .bool (decide (sx <(IntKind.i64.wrap (aQ .u64 (IntKind.u64.wrap (a+b)) 1))))) (by rw[h27]<;>rfl) ?_
    exact hj _ (by kernel_rfl) (by kernel_rfl)
   ·
    have aeY:=h27
    replace aeY:=of_decide_eq_false aeY
    refine zD 4<|jw 199 (.bool ((decide (a <sx))&&(decide (sx <(IntKind.i64.wrap (aQ .u64 (IntKind.u64.wrap (a+b)) 1)))))) (w:= .bool false) (by rw[h27]<;>rfl) ?_
    exact hj _ (by kernel_rfl) (by kernel_rfl)
   refine zD 1<|HD [1,1,1,1,1,1,1,1,1,1,1] [] (fun(zz:(List ay)×Cells)=>[(0,v),(3,zI b),(4,.func (.func 60) ⟨[]⟩ ⟨[]⟩),(18,zI (IntKind.i64.wrap (aQ .u64 (IntKind.u64.wrap (a+b)) 1))),(24,zI (((IntKind.i64.wrap (aQ .u64 (IntKind.u64.wrap (a+b)) 1))+m)-sx))]) (fun(zz:(List ay)×Cells)=>[.l zz.2]) (fun(zz:(List ay)×Cells)=>zz.1.Perm xs∧az v 8 91 cN zz.1 zz.2) ?_ (fun K15 aDA=>?_)
   ·
    rintro⟨ys,L⟩ hB rest
    dsimp only at hB
    have Vb:=hB.1.length_eq
    have hyp:=hP.perm hB.1
    refine zD 6<|jj 4 [(0,v),(3,zI b),(4,.func (.func 60) ⟨[]⟩ ⟨[]⟩),(18,zI (IntKind.i64.wrap (aQ .u64 (IntKind.u64.wrap (a+b)) 1))),(24,zI (((IntKind.i64.wrap (aQ .u64 (IntKind.u64.wrap (a+b)) 1))+m)-sx)),(213,.bool ((decide ((IntKind.i64.wrap (aQ .u64 (IntKind.u64.wrap (a+b)) 1)) <(((IntKind.i64.wrap (aQ .u64 (IntKind.u64.wrap (a+b)) 1))+m)-sx)))&&(decide ((((IntKind.i64.wrap (aQ .u64 (IntKind.u64.wrap (a+b)) 1))+m)-sx) <b))))] (fun gZ=>?_) (fun hj=>?_)
    rotate_left
    refine js 209 (decide ((IntKind.i64.wrap (aQ .u64 (IntKind.u64.wrap (a+b)) 1)) <(((IntKind.i64.wrap (aQ .u64 (IntKind.u64.wrap (a+b)) 1))+m)-sx))) (fun Yd=>?_) (fun Yd=>?_)
    ·
     have aeX:=Yd
     replace aeX:=of_decide_eq_true aeX
     refine zD 4<|jw 213 (.bool ((decide ((IntKind.i64.wrap (aQ .u64 (IntKind.u64.wrap (a+b)) 1)) <(((IntKind.i64.wrap (aQ .u64 (IntKind.u64.wrap (a+b)) 1))+m)-sx)))&&(decide ((((IntKind.i64.wrap (aQ .u64 (IntKind.u64.wrap (a+b)) 1))+m)-sx) <b)))) (w:= .bool (decide ((((IntKind.i64.wrap (aQ .u64 (IntKind.u64.wrap (a+b)) 1))+m)-sx) <b))) (by rw[Yd]<;>rfl) ?_
     exact hj _ (by kernel_rfl) (by kernel_rfl)
    ·
     have aeX:=Yd
     replace aeX:=of_decide_eq_false aeX
     refine zD 4<|jw 213 (.bool ((decide ((IntKind.i64.wrap (aQ .u64 (IntKind.u64.wrap (a+b)) 1)) <(((IntKind.i64.wrap (aQ .u64 (IntKind.u64.wrap (a+b)) 1))+m)-sx)))&&(decide ((((IntKind.i64.wrap (aQ .u64 (IntKind.u64.wrap (a+b)) 1))+m)-sx) <b)))) (w:= .bool false) (by rw[Yd]<;>rfl) ?_
     exact hj _ (by kernel_rfl) (by kernel_rfl)
    refine zD 1<|js 213 ((decide ((IntKind.i64.wrap (aQ .u64 (IntKind.u64.wrap (a+b)) 1)) <(((IntKind.i64.wrap (aQ .u64 (IntKind.u64.wrap (a+b)) 1))+m)-sx)))&&(decide ((((IntKind.i64.wrap (aQ .u64 (IntKind.u64.wrap (a+b)) 1))+m)-sx) <b))) (fun h29=>?_) (fun h29=>?_)
    ·
     try simp only[zB] at h29
     refine zD 7<|jc (vs:=[v,zI (IntKind.i64.wrap (aQ .u64 (IntKind.u64.wrap (a+b)) 1)),zI (((IntKind.i64.wrap (aQ .u64 (IntKind.u64.wrap (a+b)) 1))+m)-sx),zI b,.func (.func 60) ⟨[]⟩ ⟨[]⟩]) [0] (ih _ (show (b-(IntKind.i64.wrap (aQ .u64 (IntKind.u64.wrap (a+b)) 1))).toNat <n by omega) _ _ _ _ _ _ _ hB.2 (by omega) hyp (by omega) rfl) ?_
     rintro aVl aTa ⟨aUr,ac7,az7⟩
     have aND:=ac7.length_eq
     have aNz:=gJ.perm hyp ac7
     refine zD 1<|aF q0 (.tuple ⟨[]⟩) [] [0] aTa (Sub.refl _) ⟨_,_,rfl,rfl,_,(ac7.trans hB.1),az7⟩
    try simp only[zB] at h29
    refine zD 2<|aF q0 (.tuple ⟨[]⟩) [] [0] L (Sub.refl _) ⟨_,_,rfl,rfl,_,hB.1,hB.2⟩
   refine js 199 ((decide (a <sx))&&(decide (sx <(IntKind.i64.wrap (aQ .u64 (IntKind.u64.wrap (a+b)) 1))))) (fun h30=>?_) (fun h30=>?_)
   ·
    try simp only[zB] at h30
    refine zD 7<|jc (vs:=[v,zI a,zI sx,zI (IntKind.i64.wrap (aQ .u64 (IntKind.u64.wrap (a+b)) 1)),.func (.func 60) ⟨[]⟩ ⟨[]⟩]) [0] (ih _ (show ((IntKind.i64.wrap (aQ .u64 (IntKind.u64.wrap (a+b)) 1))-a).toNat <n by omega) _ _ _ _ _ _ _ hA.2 (by omega) hyp (by omega) rfl) ?_
    rintro aVm aTb ⟨avU,ac8,az9⟩
    have aNE:=ac8.length_eq
    have aNA:=gJ.perm hyp ac8
    refine zD 1<|bI aDA ⟨avU,aTb⟩ ⟨(ac8.trans hA.1),az9⟩ Nat.zero_lt_one [0] (Sub.refl _)
   try simp only[zB] at h30
   refine zD 2<|bI aDA ⟨ys,L⟩ ⟨hA.1,hA.2⟩ Nat.zero_lt_one [0] (Sub.refl _)
  refine js 185 ((decide (sx <m))&&(decide (m <(((IntKind.i64.wrap (aQ .u64 (IntKind.u64.wrap (a+b)) 1))+m)-sx)))) (fun h31=>?_) (fun h31=>?_)
  ·
   try simp only[zB] at h31
   refine zD 7<|jc (vs:=[v,zI sx,zI m,zI (((IntKind.i64.wrap (aQ .u64 (IntKind.u64.wrap (a+b)) 1))+m)-sx),.func (.func 60) ⟨[]⟩ ⟨[]⟩]) [0] (aLj ho (by omega) hP (by omega)) ?_
   rintro aVn aTc ⟨avV,ac9,aAa⟩
   have aNF:=ac9.length_eq
   have aNB:=gJ.perm hP ac9
   refine zD 1<|bI Yb ⟨avV,aTc⟩ ⟨(ac9.trans (.refl _)),aAa⟩ Nat.zero_lt_one [0] (Sub.refl _)
  try simp only[zB] at h31
  refine zD 2<|bI Yb ⟨xs,L⟩ ⟨(.refl _),ho⟩ Nat.zero_lt_one [0] (Sub.refl _)
 refine zJ 140 (m>(IntKind.i64.wrap (aQ .u64 (IntKind.u64.wrap (a+b)) 1))) (fun h32=>?_) fun h32=>?_
 ·
  refine zD 5<|ja (((IntKind.i64.wrap (aQ .u64 (IntKind.u64.wrap (a+b)) 1))+m)-b) (by omega)<|zD 6<|bI aDC ⟨(((IntKind.i64.wrap (aQ .u64 (IntKind.u64.wrap (a+b)) 1))+m)-b),(IntKind.i64.wrap (aQ .u64 (IntKind.u64.wrap (a+b)) 1))⟩ (by dsimp only;omega) Nat.zero_lt_one [0] (Sub.refl _)
 refine zD 10<|bI aDC ⟨a,m⟩ (by dsimp only;omega) Nat.zero_lt_one [0] (Sub.refl _)
theorem aLi:∀n,aFt n:=by
 intro n
 induction n using Nat.strongRecOn with
 |_ n ih=>exact fun ro v xs L a m b ho hN hP Eb hn=>axe ih ho hN hP Eb hn
theorem al2{v:Value}{xs:List ay}{L:Cells}{a m:Int}{ro:Nat→Option Obj}(ho:az v 8 91 cN xs L)(hN:xs.length≤100000)(hP:gJ xs)(Eb:0≤a∧a <m∧m <b∧b≤xs.length):eG zT 135 [v,zI a,zI m,zI b,.func (.func 60) ⟨[]⟩ ⟨[]⟩] ro L (fun _ Y=>wI v xs Y):=
 aLi _ ro v xs L a m b ho hN hP Eb rfl
theorem axf{v:Value}{xs:List ay}{L:Cells}{n:Int}{ro:Nat→Option Obj}(ho:az v 8 91 cN xs L)(hN:xs.length≤100000)(hP:gJ xs)(hn:n=xs.length):eG zT 110 [v,zI n,.func (.func 60) ⟨[]⟩ ⟨[]⟩] ro L (fun r Y=>wI v xs Y):=by
 refine bC au [.l L] [] bn<|zD 12<|eN [1,1,0,0,0] [] (fun(zz:Int×Int×(List ay)×Cells)=>[(0,v),(1,zI n),(2,.func (.func 60) ⟨[]⟩ ⟨[]⟩),(6,zI 20),(7,zI zz.1),(8,zI zz.2.1)]) (fun(zz:Int×Int×(List ay)×Cells)=>[.l zz.2.2.2]) (fun(zz:Int×Int×(List ay)×Cells)=>(zz.2.1=zz.1+20∧0≤zz.1∧zz.1≤n)∧az v 8 91 cN zz.2.2.1 zz.2.2.2∧zz.2.2.1.Perm xs) (fun(zz:Int×Int×(List ay)×Cells)=>(n-zz.1).toNat) (⟨0,20,xs,L⟩) ⟨by dsimp only;omega,ho,.refl _⟩ [0] ?_
 rintro⟨a,b,ys,L⟩ hI K1 bF rest
 dsimp only at hI
 have Vb:=hI.2.2.length_eq
 have hyp:=hP.perm hI.2.2
 refine zD 7<|zJ 13 (b≤n) (fun h1=>?_) fun h1=>?_
 ·
  refine zD 9<|jc (vs:=[v,zI a,zI b,.func (.func 60) ⟨[]⟩ ⟨[]⟩]) [0] (axh hI.2.1 (by omega) hyp (by omega)) ?_
  rintro aZY Y18 ⟨aIG,Oz,XS⟩
  have aWi:=Oz.length_eq
  have aWb:=gJ.perm hyp Oz
  refine zD 9<|ja (b+20) (by omega)<|zD 2<|bI bF (⟨b,(b+20),aIG,Y18⟩) ⟨by dsimp only;omega,XS,(Oz.trans hI.2.2)⟩ (by dsimp only;omega) [0] (Sub.refl _)
 refine zD 8<|jc (vs:=[v,zI a,zI n,.func (.func 60) ⟨[]⟩ ⟨[]⟩]) [0] (axh hI.2.1 (by omega) hyp (by omega)) ?_
 rintro aZX Y27 ⟨aY9,ari,aOQ⟩
 have aWh:=ari.length_eq
 have aWa:=gJ.perm hyp ari
 refine zD 2<|eN [1,1,1,1,0,0] [] (fun(zz:Int×(List ay)×Cells)=>[(0,v),(1,zI n),(2,.func (.func 60) ⟨[]⟩ ⟨[]⟩),(6,zI zz.1)]) (fun(zz:Int×(List ay)×Cells)=>[.l zz.2.2]) (fun(zz:Int×(List ay)×Cells)=>(20≤zz.1∧zz.1≤1000000)∧az v 8 91 cN zz.2.1 zz.2.2∧zz.2.1.Perm xs) (fun(zz:Int×(List ay)×Cells)=>(n-zz.1).toNat) (⟨20,_,_⟩) ⟨by dsimp only;omega,aOQ,ari.trans hI.2.2⟩ [0] ?_
 rintro⟨bz,ys,L⟩ hJ K2 mL rest
 dsimp only at hJ
 have Vb:=hJ.2.2.length_eq
 have hyp:=hP.perm hJ.2.2
 refine zD 7<|zJ 30 (bz <n) (fun h2=>?_) fun h2=>?_
 ·
  refine zD 6<|ja (2*bz) (by omega)<|zD 5<|eN [1,1,1,1,0,0,1,0,1,0,0,0] [K2] (fun(zz:Int×Int×(List ay)×Cells)=>[(0,v),(1,zI n),(2,.func (.func 60) ⟨[]⟩ ⟨[]⟩),(6,zI bz),(7,zI zz.1),(8,zI zz.2.1)]) (fun(zz:Int×Int×(List ay)×Cells)=>[.l zz.2.2.2]) (fun(zz:Int×Int×(List ay)×Cells)=>(zz.2.1=zz.1+2*bz∧0≤zz.1∧zz.1≤n)∧az v 8 91 cN zz.2.2.1 zz.2.2.2∧zz.2.2.1.Perm xs) (fun(zz:Int×Int×(List ay)×Cells)=>(n-zz.1).toNat) (⟨0,(2*bz),ys,L⟩) ⟨by dsimp only;omega,hJ.2⟩ [0] ?_
  rintro⟨a,b,ys,L⟩ hK K3 Zi rest
  dsimp only at hK
  have Vb:=hK.2.2.length_eq
  have hyp:=hP.perm hK.2.2
  refine zD 7<|zJ 35 (b≤n) (fun h3=>?_) fun h3=>?_
  ·
   refine zD 9<|ja (a+bz) (by omega)<|zD 2<|jc (vs:=[v,zI a,zI (a+bz),zI b,.func (.func 60) ⟨[]⟩ ⟨[]⟩]) [0] (al2 hK.2.1 (by omega) hyp (by omega)) ?_
   rintro aZV Y43 ⟨aID,are,aOM⟩
   have aWf:=are.length_eq
   have aV8:=gJ.perm hyp are
   refine zD 9<|ja (2*bz) (by omega)<|ja (b+(2*bz)) (by omega)<|zD 2<|bI Zi (⟨b,(b+(2*bz)),aID,Y43⟩) ⟨by dsimp only;omega,aOM,(are.trans hK.2.2)⟩ (by dsimp only;omega) [0] (Sub.refl _)
  refine zD 7<|ja (a+bz) (by omega)<|zD 8<|zJ 54 ((a+bz) <n) (fun h4=>?_) fun h4=>?_
  ·
   refine zD 7<|jc (vs:=[v,zI a,zI (a+bz),zI n,.func (.func 60) ⟨[]⟩ ⟨[]⟩]) [0] (al2 hK.2.1 (by omega) hyp (by omega)) ?_
   rintro aZS Y60 ⟨aIB,ac6,KT⟩
   have aWc:=ac6.length_eq
   have aV5:=gJ.perm hyp ac6
   refine zD 3<|ja (bz*2) (by omega)<|zD 2<|bI mL (⟨(bz*2),aIB,Y60⟩) ⟨by dsimp only;omega,KT,(ac6.trans hK.2.2)⟩ (by dsimp only;omega) [0] (Sub.refl _)
  refine zD 4<|ja (bz*2) (by omega)<|zD 2<|bI mL (⟨(bz*2),ys,L⟩) ⟨by dsimp only;omega,hK.2.1,hK.2.2⟩ (by dsimp only;omega) [0] (Sub.refl _)
 refine zD 2<|aF q0 (.tuple ⟨[]⟩) [] [0] L (Sub.refl _) ⟨_,_,rfl,rfl,_,hJ.2.2,hJ.2.1⟩
theorem Nm{v:Value}{xs:List ay}{L:Cells}{ro:Nat→Option Obj}(ho:az v 8 91 cN xs L)(hN:xs.length≤100000)(hP:gJ xs):eG zT 59 [v,.func (.func 60) ⟨[]⟩ ⟨[]⟩] ro L (fun r Y=>wI v xs Y):=by
 refine bC au [.l L] [] bn<|zD 3<|DY ho<|zD 1<|jc (vs:=[v,zI (xs.length:Int),.func (.func 60) ⟨[]⟩ ⟨[]⟩]) [0] (axf ho (by omega) hP rfl) ?_
 rintro rv8 Y8 ⟨ys8,hp8,ho8⟩
 have bbO:=hp8.length_eq
 have bbN:=gJ.perm hP hp8
 refine zD 1<|aF q0 (.tuple ⟨[]⟩) [] [0] Y8 (Sub.refl _) ⟨_,_,rfl,rfl,_,hp8,ho8⟩
open Go.ConcR (KK wgBlock WgAt stA smA rd wr)
def agm(o:Oper):Array TypeId:=match o.op with
 | .call c=>c.argTypes
 | .go c=>c.argTypes
 | .defer c=>c.argTypes
 |_=> #[]
noncomputable def kE:rn:=atS zT 26 2
theorem ay8:kE.cl.OK zT 145 where
 ff:=by kernel_rfl
 fn:=⟨(Tryz.prog.funcs[57]?).getD default,by kernel_rfl,by kernel_rfl,by kernel_rfl⟩
 bf:=⟨by kernel_rfl,by kernel_rfl,by kernel_rfl⟩
 enter:=fun p1 p2=>by kernel_rfl
 op0:=by kernel_rfl
 rest:=⟨1,by kernel_rfl⟩
 size:=by kernel_rfl
 op:=⟨by kernel_rfl,by kernel_rfl,agm kE.cl.oc,by kernel_rfl⟩
theorem aqt:∀v,v <2→∀W,∃k,GB zT 145 v (Frame.enter zT 52 #[zP W,zI 1] .normal)=some (List.replicate k W):=by
 intro v hv W
 match v,hv with
 |0,_=>exact⟨7,by kernel_rfl⟩
 |1,_=>exact⟨4,by kernel_rfl⟩
theorem ajy:∀W,∃k,xd zT 145 2 (Frame.enter zT 54 #[zP W] .deferred)=some (List.replicate k W):=fun W=>⟨27,by kernel_rfl⟩
theorem ajx:∀W,∃k,Au zT 145 2 (Frame.enter zT 58 #[zP W] .normal)=some (List.replicate k W):=fun W=>⟨164,by kernel_rfl⟩
noncomputable def nj(Wg Ch:Nat)(ia:Os)(bZ:Array (Nat×ByteArray)):dV (List ay):=⟨zT,145,Wg,Ch,2,zS,ia,bZ,fun l v X=>az v 8 91 cN l X⟩
theorem Gd(K:bk)(on:Int)(hb:K.after.length≤4):∀(n a:Nat) (p:Nat→Int),(∀i,0≤p i∧p i≤4)→(jM K on n a p).length≤5^n∧∀q∈jM K on n a p,∀i,0≤q i∧q i≤4
 |0,a,p,hp=>by
  simp only[jM]
  cases oJ on p K.facts 0 with
  |true=>exact⟨by simp,fun q hq=>by simp only[cond_true,List.mem_singleton] at hq;subst hq;exact hp⟩
  |false=>exact⟨by simp,fun q hq=>by simp at hq⟩
 |n+1,a,p,hp=>by
  obtain⟨h1,h2⟩:=Gd K on hb n (a+1) p hp
  have hg:∀b,b <K.after.length→(ng K on n a p b).length≤5^n∧∀q∈ng K on n a p b,∀i,0≤q i∧q i≤4:=fun b cz=>by
   simp only[ng]
   cases !cZ K on a b||SA p a ((b:Int)+1) with
   |true=>exact⟨by simp,fun q hq=>by simp at hq⟩
   |false=>
    simp only[cond_false]
    refine Gd K on hb n (a+1) _ fun i=>?_
    simp only[pN]
    split
    ·omega
    exact hp i
  rw[qi]
  refine⟨?_,fun q hq=>?_⟩
  ·rw[List.length_append,List.length_flatMap]
   have:((List.range K.after.length).map fun b=>(ng K on n a p b).length).sum≤K.after.length*5^n:=by
    have key:∀l:List Nat,(∀b∈l,b <K.after.length)→(l.map fun b=>(ng K on n a p b).length).sum≤l.length*5^n:=by
     intro l
     induction l with
     |nil=>intro _;simp
     |cons b l ih=>
      intro hl
      have:=ih fun x hx=>hl x (List.mem_cons_of_mem _ hx)
      have:=(hg b (hl b List.mem_cons_self)).1
      simp only[List.map_cons,List.sum_cons,List.length_cons,Nat.succ_mul]
      omega
    have:=key (List.range K.after.length) fun b hb=>List.mem_range.1 hb
    simpa using this
   have h5:K.after.length*5^n≤4*5^n:=Nat.mul_le_mul_right _ hb
   rw[Nat.pow_succ]
   omega
  rcases List.mem_append.1 hq with hq|hq
  ·exact h2 q hq
  obtain⟨b,my,hq⟩:=List.mem_flatMap.1 hq
  exact(hg b (List.mem_range.1 my)).2 q hq
theorem lX(hV:gT K)(on:Int):(dH K on).length≤625∧∀q∈dH K on,∀i,0≤q i∧q i≤4:=by
 obtain⟨h1,h2⟩:=Gd K on hV.after.1 K.before.length 0 (fun _=>0) fun _=>by omega
 refine⟨Nat.le_trans h1 ?_,h2⟩
 have:=Nat.pow_le_pow_right (n:=5) (by omega) hV.before.1
 omega
abbrev pV(b:Nat):Value:= zP b
noncomputable def Dc(f i:Nat):Array Oper:=cE (codeOf zT f) i
noncomputable def aSD(f i:Nat):Code:=((codeOf zT f)[i]?).getD .skip
def qK(K:bk)(on:Int)(keep:ay→Bool)(r:bU)(past:Nat):List ay:=((dH K on).map (dS K r past)).filter keep
noncomputable def V1(f:Nat):Code:=(((Tryz.prog.funcs[f]?).getD default).body).getD .skip
theorem jB{l:List α}{k:Nat}{x:α}(h:l[k]?=some x):l.take (k+1)=l.take k++[x]:=by rw[List.take_succ,h];rfl
theorem atL:gQ [V1 53]=[.region 0 (Dc 53 0) false,.region 1 (Dc 53 1) false,.region 2 (Dc 53 2) false,aSD 53 3,.region 7 (Dc 53 4) false]:=by kernel_rfl
theorem ay1{rows:List bU}{on:Int}{Hq:bU}{g:FuncId}{fi ca:List Value}{keep:ay→Bool}{ro:Nat→Option Obj}{Wg Ch:Nat}{ia:Os}{bZ:Array (Nat×ByteArray)}{b5 b7 b9:Nat}(hV:gT K)(hF:pF ro f K rows)(BH:rows[past]?=some Hq) (FU:AV zT g=true)
 (iy:∀aL,Sub ro aL→∀p∈dH K on,dL zT g (fi++[.agg ⟨cN (dS K Hq past p)⟩]++ca) aL (.bool (keep (dS K Hq past p))))
 (g3:ro b3=some (.cells ⟨[pV f]⟩ 80 (0,0))) (g4:ro b4=some (.cells ⟨[.int .u8 on]⟩ 85 (0,0))) (g9:ro b9=some (.cells ⟨[zI (past:Int)]⟩ 3 (0,0))) (g5:ro b5=some (.cells ⟨[.func (.func g) ⟨fi⟩ ⟨ca⟩]⟩ 92 (0,0))) (g7:ro b7=some (.cells ⟨[.chan (some Ch)]⟩ 136 (0,0))):
 eR zT false ((nj Wg Ch ia bZ).H4 (qK K on keep Hq past)) (born zT {target:= .fn (.func 53) ⟨[pV Wg,pV b3,pV b4,pV b9,pV b5,pV b7]⟩,args:= #[]}) ⟨ro,[]⟩:=by
 have hT:Closed zT false (eR zT false ((nj Wg Ch ia bZ).H4 (qK K on keep Hq past))):=dX _ _ _
 refine aw7 (fn:=(Tryz.prog.funcs[53]?).getD default) (c:=V1 53) (n:=26) (by kernel_rfl) (by kernel_rfl) (by kernel_rfl) (by kernel_rfl) (by rfl)<|pP hT atL fun l1 CE=>?_
 refine aoF hT (a:=eH (Dc 53 0) 0) (f:=54) (xs:= #[.tmp 0]) (vs:=[pV Wg]) (ats:=agm (eH (Dc 53 0) 0)) (by kernel_rfl) (by kernel_rfl) (by kernel_rfl) (by decide) rfl<|pP hT CE fun l2 qE=>?_
 refine u9 au hT<|jn fun b6=>zD 1<|xq<|pP hT qE fun l3 ON=>?_
 refine u9 au hT<|jl (b:=b3) (off:=0) (m:=1) (vs:=[pV f]) 0 ⟨_,_,_,.inl g3,rfl⟩<|jl (b:=b4) (off:=0) (m:=1) (vs:=[.int .u8 on]) 0 ⟨_,_,_,.inl g4,rfl⟩<|jc [] (IV (on:=on) hF hV) ?_
 rintro _ _ ⟨q1,q2,q3,q4,rfl,rfl⟩
 refine jf [0] [(q1,.cells ⟨[pV f]⟩ 80 (0,0)),(q2,.cells ⟨[.func (.func 99) ⟨[]⟩ ⟨[pV q1,pV q4]⟩]⟩ 200 (0,0)),(q3,.cells ⟨BX ⟨cZ K on⟩⟩ 127 (0,0)),(q4,.cells ⟨[.int .u8 on]⟩ 85 (0,0))] fun aA bW hk1=>zD 1<|aw5<|alX hT ON fun l4 OM=>?_
 refine aw6 au hT ?_
 have Le:=hF.up bW
 refine zD 1<|qB ?_
 refine jrf [] (U3 (on:=on) Le hV (hk1 _ (.head _)) (hk1 _ (.tail _ (.head _))) (hk1 _ (.tail _ (.tail _ (.head _)))) (hk1 _ (.tail _ (.tail _ (.tail _ (.head _)))))) (by rintro _ _ _ _ ⟨_,_,rfl,_⟩;rfl)
  (fun(zz:Value×Cells)=>[.b b6 (.cells ⟨[zz.1]⟩ 83 (0,0)),.l zz.2]) (fun kk=>(fun(zz:Value×Cells)=>az zz.1 8 91 cN ((((dH K on).take kk).map (dS K Hq past)).filter keep) zz.2)) (fun jump=>(fun(zz:Value×Cells)=>False)) (⟨zS,[]⟩) (az.nil _ _ _) [1,0] ?_ ?_ ?_
 ·rintro bl bd kk vs LL ⟨v,Lb⟩ kB jC ⟨p,hp,rfl,rfl⟩ hI qD
  dsimp only at hI
  have azV:=List.mem_of_getElem? hp
  have hp4:=(lX hV on).2 p azV
  have ac0:=Sub.trans bW qD
  have hlen:((((dH K on).take kk).map (dS K Hq past)).filter keep).length≤625:=by
   refine Nat.le_trans (List.length_filter_le _ _) ?_
   rw[List.length_map,List.length_take]
   have:=(lX hV on).1
   omega
  refine zD 1<|jn fun jP=>jd 2 [0]<|jbI 1<|zD 3<|jl (b:=b3) (off:=0) (m:=1) (vs:=[pV f]) 0 ⟨_,_,_,.inl (ac0 _ _ g3),rfl⟩<|jl (b:=b9) (off:=0) (m:=1) (vs:=[zI (past:Int)]) 0 ⟨_,_,_,.inl (ac0 _ _ g9),rfl⟩<|jd 1 [0]<|jp (vs:=[pV f,zI (past:Int),.agg ⟨eP4 p⟩]) [] [] (fun AM hs hZ=>amv (hF.up (Sub.trans ac0 hs)) hV BH hp4)<|jn fun yZ=>jd 4 [0]<|jl (b:=b5) (off:=0) (m:=1) (vs:=[.func (.func g) ⟨fi⟩ ⟨ca⟩]) 0 ⟨_,_,_,.inl (ac0 _ _ g5),rfl⟩<|jd 1 [0]<|jpF (f:=g) (V:= .bool (keep (dS K Hq past p))) (vs:=fi++[Value.agg ⟨cN (dS K Hq past p)⟩]++ca) [] [] FU (fun AM hs hZ=>iy _ (Sub.trans ac0 hs) p azV)<|zD 1<|js 19 (keep (dS K Hq past p)) (fun h5=>?_) (fun h5=>?_)
  ·refine jd 4 [3,0]<|jn fun mW=>k8 (sz:=8) (ps:=(((dH K on).take kk).map (dS K Hq past)).filter keep) (qs:=[dS K Hq past p]) (enc:=cN) (w:= .slice (some ⟨mW,0,none⟩) 1 1) [5] [0] [(mW,.cells ⟨([dS K Hq past p].map cN).flatten⟩ 91 (0,0))] hI (fun s _ hZ=>cb [dS K Hq past p] (hZ _ (.head _)) (by intro p hp;rfl)) (fun p _=>ar rfl) (by simp only[List.length_cons,List.length_nil];omega) (fun v23 L23 yz=>?_)
   obtain⟨va,vc,he⟩:=yz.form
   subst he
   refine jd 2 [5]<|jyn WY (Sub.refl _) ⟨.slice va _ vc,L23⟩ (by dsimp only;rw[jB hp,List.map_append,List.filter_append,List.map_cons,List.map_nil,List.filter_cons_of_pos h5,List.filter_nil];exact yz) [4,5,0]
  refine zD 2<|jyn WY (Sub.refl _) ⟨v,Lb⟩ (by dsimp only;rw[jB hp,List.map_append,List.filter_append,List.map_cons,List.map_nil,List.filter_cons_of_neg (by rw[h5];simp),List.filter_nil,List.append_nil];exact hI) [2,3,4]
 ·rintro bd ⟨v,Lb⟩ Z hI rfl
  dsimp only at hI
  rw[List.take_length] at hI
  refine aw4<|pP hT OM fun l5 OL=>?_
  have:=gG OL
  subst this
  show TT _ _ (.inRegion (Dc 53 4) (0::[1,2])::[]) _ _ _ _ _
  refine tLd hT (.chan (some Ch)) (a:=eH (Dc 53 4) 0) (x:= .tmp 5) (U:=136) (q:=b7) (by kernel_rfl) (by kernel_rfl) (by kernel_rfl) (by kernel_rfl) (by decide) rfl (fun _ _ _ _=> .inl (bW _ _ g7))<|aK4 hT v (a:=eH (Dc 53 4) 1) (x:= .tmp 6) (U:=83) (q:=b6) (by kernel_rfl) (by kernel_rfl) (by kernel_rfl) (by kernel_rfl) (by decide) rfl [2] 83<|awZ (E:=nj Wg Ch ia bZ) (a:=eH (Dc 53 4) 2) (sc:= .tmp 24) (sv:= .tmp 25) (v:=v) (Y:=Lb) [3] (by kernel_rfl) (by kernel_rfl) (fun ρ=>by kernel_rfl) (by decide) rfl hI<|T4 (dX _ _ _)<|aoB (E:=nj Wg Ch ia bZ) (fn:=(Tryz.prog.funcs[53]?).getD default) (dn:=54) (bd:=bd) (by kernel_rfl) (by kernel_rfl) (by kernel_rfl) (ajy Wg).choose_spec wO [0] rfl rfl
 rintro bd ⟨v,Lb⟩ Z jump hS hZ
 exact hS.elim
end Go.L
