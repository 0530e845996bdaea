/- Part 21 of the proof: a program logic, contracts, a theorem on goroutines. -/
import Derived.Test.YtjpghiajlddegaaGreatDoorL20
set_option maxRecDepth 100000
set_option linter.all false
namespace Go.L
open Go Go.Conc Go.Proofs
variable {l:List Value} {T R:Nat→Nat→Int} {n j:Int} {seen:List Nat} {ck q i fc:Nat} {K:aZ} {xs:List Int} {v0 v1 v3 v5 v6 v7 vb vd:Value}
def Hm:Value→Int
 | .int _ n=>n
 |_=>0
def Qu(f:P4→Int)(F:List (P4×Value)):Int:=(F.map fun x=>f x.1*Hm x.2).sum
def pk(x:av):P4:=(x.w0,x.w1,x.w2,x.w3)
def Z3(f:P4→Int)(zs:List av):Int:=(zs.map fun x=>f (pk x)).sum
structure CF(F:List (P4×Value))(zs:List av):Prop where
 sum:∀f,Qu f F=Z3 f zs
 val:∀x∈F,∃n,x.2= zI n∧0≤n∧n≤zs.length
 key:∀x∈F,∃z∈zs,x.1=pk z
theorem CF.nil:CF [] []:=⟨fun _=>rfl,by simp,by simp⟩
theorem Ew{κ:Type}(g:κ×Value→Int):∀ {F:List (κ×Value)} {i:Nat} {k:κ} {u v:Value},F[i]?=some (k,u)→((td k v F i).map g).sum=(F.map g).sum-g (k,u)+g (k,v)
 | [],_,_,_,_,h=>by simp at h
 |x::F,0,k,u,v,h=>by simp at h;subst h;simp only[td,List.map_cons,List.sum_cons];omega
 |x::F,i+1,k,u,v,h=>by
  simp at h
  have:=Ew g (v:=v) h
  simp only[td,List.map_cons,List.sum_cons];omega
theorem u7{κ:Type}:∀ {F:List (κ×Value)} {i:Nat} {k:κ} {v:Value} {x:κ×Value},x∈td k v F i→x=(k,v)∨x∈F
 | [],_,_,_,_,h=>by cases h
 |y::F,0,k,v,x,h=>by
  rcases List.mem_cons.1 h with h|h
  ·exact .inl h
  exact .inr (List.mem_cons_of_mem _ h)
 |y::F,i+1,k,v,x,h=>by
  rcases List.mem_cons.1 h with h|h
  ·exact .inr (by rw[h];exact List.mem_cons_self)
  exact(u7 h).imp id (List.mem_cons_of_mem _)
theorem CF.look{F:List (P4×Value)}{zs:List av}(h:CF F zs)(k:P4):∃n,NU (zI 0) false k F= zI n∧0≤n∧n≤zs.length:=by
 simp only[NU,lkM]
 cases hf:rH k F 0 with
 |none=>exact⟨0,rfl,by omega,by omega⟩
 |some u=>
  obtain⟨j,u⟩:=u
  have:=(p7 hf).2
  exact h.val _ (List.mem_of_getElem? this)
theorem CF.upd{F F1:List (P4×Value)}{zs:List av}{x:av}(h:CF F zs)(h1:((∃u,rH (pk x) F 0=some u)∧F1=F)∨(rH (pk x) F 0=none∧F1=F++[(pk x,zI 0)]))(hl:NU (zI 0) false (pk x) F= zI n)(hn:0≤n∧n≤zs.length):CF (lO (pk x) (zI (n+1)) F1) (zs++[x]):=by
 have hz (f:P4→Int):Z3 f (zs++[x])=Z3 f zs+f (pk x):=by simp[Z3]
 rcases h1 with ⟨⟨⟨j,u⟩,hf⟩,rfl⟩| ⟨hf,rfl⟩
 ·have hu:=p7 hf
  simp only[Nat.sub_zero] at hu
  have qt:u= zI n:=by simpa [NU,lkM,hf] using hl
  subst qt
  simp only[lO,hf]
  refine⟨fun f=>?_,fun y hy=>?_,fun y hy=>?_⟩
  ·rw[hz,←h.sum,Qu,Ew _ hu.2,Qu]
   simp only[Hm,Int.mul_add,Int.mul_one];omega
  ·rcases u7 hy with rfl|hy
   ·exact⟨n+1,rfl,by omega,by simp;omega⟩
   obtain⟨m,h1,h2⟩:=h.val _ hy
   exact⟨m,h1,by omega,by simp;omega⟩
  rcases u7 hy with rfl|hy
  ·exact⟨x,by simp,rfl⟩
  obtain⟨z,h1,h2⟩:=h.key _ hy
  exact⟨z,by simp[h1],h2⟩
 have qt:n=0:=by
  have:(Value.int .i64 0)= zI n:=by simpa [NU,lkM,hf] using hl
  cases this;rfl
 subst qt
 have hs:lO (pk x) (zI (0+1)) (F++[(pk x,zI 0)])=td (pk x) (zI (0+1)) (F++[(pk x,zI 0)]) (0+F.length):=by
  simp only[lO,Ae (v:= zI 0) hf]
 have hg:(F++[(pk x,Value.int .i64 0)])[0+F.length]?=some (pk x,zI 0):=by simp
 rw[hs]
 refine⟨fun f=>?_,fun y hy=>?_,fun y hy=>?_⟩
 ·rw[hz,←h.sum,Qu,Ew _ hg,Qu]
  simp[Hm]
 ·rcases u7 hy with rfl|hy
  ·exact⟨0+1,rfl,by omega,by simp;omega⟩
  rcases List.mem_append.1 hy with hy|hy
  ·obtain⟨m,h1,h2⟩:=h.val _ hy
   exact⟨m,h1,by omega,by simp;omega⟩
  rw[List.mem_singleton] at hy;subst hy
  exact⟨0,rfl,by omega,by omega⟩
 rcases u7 hy with rfl|hy
 ·exact⟨x,by simp,rfl⟩
 rcases List.mem_append.1 hy with hy|hy
 ·obtain⟨z,h1,h2⟩:=h.key _ hy
  exact⟨z,by simp[h1],h2⟩
 rw[List.mem_singleton] at hy;subst hy
 exact⟨x,by simp,rfl⟩
def fV(i j:Nat):Value→Int
 | .agg ⟨l⟩=>(match l[i]? with
  |some (.int _ n)=>if n=(j:Int)+1 then 1 else 0
  |_=>0)
 |_=>0
def rS(i j:Nat)(l:List MapEntry):Int:=(l.map fun e=>fV i j e.key*Hm e.val).sum
theorem Z5{F:List (P4×Value)}{es:Array MapEntry}(h:sO G3 F es ck)(i j:Nat):rS i j es.toList=Qu (fun k=>fV i j (G3 k)) F:=by
 have h1:=congrArg (List.map fun p:Value×Value=>fV i j p.1*Hm p.2) h.1
 simp only[List.map_map] at h1
 unfold rS Qu
 exact congrArg List.sum h1
theorem MT(i j:Nat):∀ {l:List MapEntry} {e:MapEntry},(l.map (·.born)).Nodup→e∈l→rS i j l=fV i j e.key*Hm e.val+rS i j (l.filter fun x=> !decide (x.born=e.born))
 | [],_,_,h=>by cases h
 |x::l,e,hn,h=>by
  simp only[List.map_cons,List.nodup_cons] at hn
  rcases List.mem_cons.1 h with rfl|h
  ·have:l.filter (fun y=> !decide (y.born=e.born))=l:=by
    refine List.filter_eq_self.2 fun y hy=>?_
    have:y.born≠e.born:=fun h=>hn.1 (h▸List.mem_map_of_mem hy)
    simp[this]
   rw[List.filter_cons_of_neg (by simp),this];rfl
  have dP:x.born≠e.born:=fun k=>hn.1 (k▸List.mem_map_of_mem h)
  rw[List.filter_cons_of_pos (by simp[dP])]
  have:=MT i j hn.2 h
  simp only[rS,List.map_cons,List.sum_cons] at this ⊢
  omega
theorem Rt(es:Array MapEntry)(seen:List Nat)(b:Nat):cy es (seen++[b])=(cy es seen).filter fun x=> !decide (x.born=b):=by
 simp only[cy,List.filter_filter]
 refine List.filter_congr fun x _=>?_
 simp only[List.contains_eq_mem,List.mem_append,List.mem_singleton,Bool.decide_or,Bool.not_or]
 rw[Bool.and_comm]
theorem Ia{F:List (P4×Value)}{es:Array MapEntry}(h:sO G3 F es ck){e:MapEntry}(he:e∈cy es seen)(i j:Nat):rS i j (cy es seen)=fV i j e.key*Hm e.val+rS i j (cy es (seen++[e.born])):=by
 rw[Rt]
 exact MT i j ((List.filter_sublist.map _).nodup h.2.1) he
theorem amT(i j:Nat)(v:Value):fV i j v=0∨fV i j v=1:=by
 unfold fV
 split<;>try exact .inl rfl
 split<;>try exact .inl rfl
 split<;>simp
theorem MS{i j:Nat}:∀ {l:List MapEntry},(∀e∈l,0≤Hm e.val)→0≤rS i j l
 | [],_=>Int.le_refl _
 |x::l,h=>by
  have h1:=MS (i:=i) (j:=j) (l:=l) fun e he=>h e (List.mem_cons_of_mem _ he)
  have h2:=h x List.mem_cons_self
  simp only[rS,List.map_cons,List.sum_cons] at h1 ⊢
  rcases amT i j x.key with h3|h3<;>rw[h3]<;>omega
theorem ahH{F:List (P4×Value)}{zs:List av}(h:CF F zs){es:Array MapEntry}(hE:sO G3 F es ck):∀e∈cy es seen,0≤Hm e.val:=fun e he=>by
 have h1:e∈es.toList:=(List.mem_filter.1 he).1
 have h2:(e.key,e.val)∈es.toList.map (fun e=>(e.key,e.val)):=List.mem_map_of_mem (f:=fun e:MapEntry=>(e.key,e.val)) h1
 rw[hE.1] at h2
 obtain⟨y,h3,h4⟩:=List.mem_map.1 h2
 obtain⟨n,h5,h6,_⟩:=h.val _ h3
 simp only[Prod.mk.injEq] at h4
 rw[←h4.2,h5];exact h6
theorem VF(x:av)(j:Nat)(hi:i <4):fV i j (G3 (pk x))=if pI x i=(j:Int)+1 then 1 else 0:=by
 rcases Kq hi with rfl|rfl|rfl|rfl<;>rfl
theorem TW{α:Type}(p:α→Prop)[DecidablePred p]:∀l:List α,(l.map fun x=>if p x then (1:Int) else 0).sum=((l.filter fun x=>decide (p x)).length:Int)
 | []=>rfl
 |x::l=>by
  rw[List.map_cons,List.sum_cons,TW p l]
  by_cases h:p x
  ·rw[if_pos h,List.filter_cons_of_pos (by simpa using h),List.length_cons];omega
  rw[if_neg h,List.filter_cons_of_neg (by simpa using h)];omega
theorem CF.total{F:List (P4×Value)}{zs:List av}(h:CF F zs){es:Array MapEntry}(hE:sO G3 F es ck)(j:Nat)(hi:i <4):rS i j (cy es [])=(aJ zs).c i j:=by
 rw[Bu,Z5 hE,h.sum,Z3]
 simp only[VF _ j hi]
 exact TW (fun x=>pI x i=(j:Int)+1) zs
theorem Ze{z:av}(h:(z.w0==0&&(z.w1==0&&(z.w2==0&&(z.w3==0&&true))))=true)(i:Nat):pI z i=0:=by
 simp only[Bool.and_eq_true,beq_iff_eq] at h
 match i with
 |0=>exact h.1
 |1=>exact h.2.1
 |2=>exact h.2.2.1
 |_+3=>exact h.2.2.2.1
def DD(m:iX)(S T:Nat→Nat→Int):Prop:=∀i j,i <4→j <4→0≤m.c i j∧m.c i j+S i j=T i j
theorem DD.init{F:List (P4×Value)}{zs:List av}(h:CF F zs){es:Array MapEntry}(hE:sO G3 F es ck):DD ⟨fun _ _=>0⟩ (fun i j=>rS i j (cy es [])) (aJ zs).c:=fun i j hi _=>⟨Int.le_refl _,by show 0+rS i j (cy es [])=_;rw[h.total hE j hi];exact Int.zero_add _⟩
def Xr(z:av)(n:Int)(q:Nat)(R:Nat→Nat→Int):Nat→Nat→Int:=fun i j=>(if i <q then 0 else fV i j (G3 (pk z))*n)+R i j
theorem DD.zero{m:iX}{z:av}{n:Int}{es:Array MapEntry}{ck:Nat}{F:List (P4×Value)}{T:Nat→Nat→Int}{seen:List Nat}{e:MapEntry}(hE:sO G3 F es ck)(he:e∈cy es seen)(hk:e.key=G3 (pk z))(hz:∀i,pI z i=0)(h:DD m (fun i j=>rS i j (cy es seen)) T):DD m (fun i j=>rS i j (cy es (seen++[e.born]))) T:=fun i j hi hj=>by
 have h1:=h i j hi hj
 have h2:=Ia hE he i j
 rw[hk,VF z j hi,if_neg (by rw[hz];omega),Int.zero_mul,Int.zero_add] at h2
 dsimp only at h1 ⊢
 rw[h2] at h1;exact h1
theorem DD.open_{m:iX}{z:av}{es:Array MapEntry}{F:List (P4×Value)}{e:MapEntry}(hE:sO G3 F es ck)(he:e∈cy es seen)(hk:e.key=G3 (pk z))(hv:e.val= zI n)(h:DD m (fun i j=>rS i j (cy es seen)) T):DD m (Xr z n 0 fun i j=>rS i j (cy es (seen++[e.born]))) T:=fun i j hi hj=>by
 have h1:=h i j hi hj
 have h2:=Ia hE he i j
 rw[hk,hv] at h2
 simp only[Hm] at h2
 simp only[Xr,if_neg (Nat.not_lt_zero i)]
 dsimp only at h1
 rw[h2] at h1;exact h1
theorem DD.close{m:iX}{z:av}(h:DD m (Xr z n 4 R) T):DD m R T:=fun i j hi hj=>by
 have h1:=h i j hi hj
 simp only[Xr,if_pos hi,Int.zero_add] at h1
 exact h1
theorem DD.skip{m:iX}{z:av}(h:DD m (Xr z n q R) T)(hq:¬pI z q>0):DD m (Xr z n (q+1) R) T:=fun i j hi hj=>by
 have h1:=h i j hi hj
 simp only[Xr] at h1 ⊢
 by_cases e:i=q
 ·subst e
  rw[if_neg (Nat.lt_irrefl _),VF z j hi,if_neg (by omega),Int.zero_mul] at h1
  rw[if_pos (Nat.lt_succ_self _)];exact h1
 by_cases e2:i <q
 ·rw[if_pos e2] at h1;rw[if_pos (by omega)];exact h1
 rw[if_neg e2] at h1;rw[if_neg (by omega)];exact h1
theorem DD.add{m:iX}{z:av}(h:DD m (Xr z n q R) T)(hn:0≤n)(hq:pI z q>0)(hq4:q <4):DD (q5 m q (pI z q-1).toNat (m.c q (pI z q-1).toNat+n)) (Xr z n (q+1) R) T:=fun i j hi hj=>by
 have h1:=h i j hi hj
 simp only[Xr,q5] at h1 ⊢
 by_cases e:i=q
 ·subst e
  rw[if_neg (Nat.lt_irrefl _),VF z j hi] at h1
  rw[if_pos (Nat.lt_succ_self _)]
  by_cases e2:j=(pI z i-1).toNat
  ·rw[if_pos (by omega)] at h1
   rw[if_pos ⟨rfl,e2⟩,←e2];omega
  rw[if_neg (by omega)] at h1
  rw[if_neg (by omega)];omega
 rw[if_neg (c:=i=q∧j=(pI z q-1).toNat) (by omega)]
 by_cases e2:i <q
 ·rw[if_pos e2] at h1;rw[if_pos (by omega)];exact h1
 rw[if_neg e2] at h1;rw[if_neg (by omega)];exact h1
theorem DD.bound{m:iX}{z:av}(h:DD m (Xr z n q R) T)(hR:∀i j,0≤R i j)(hn:0≤n){j:Nat}(hi:i <4)(hj:j <4):0≤m.c i j∧m.c i j≤T i j:=by
 have h1:=h i j hi hj
 have h2:=hR i j
 simp only[Xr] at h1
 split at h1
 ·omega
 rcases amT i j (G3 (pk z)) with h3|h3<;>rw[h3] at h1<;>omega
theorem DD.fin{m:iX}{zs:List av}{es:Array MapEntry}(h:DD m (fun i j=>rS i j (cy es seen)) (aJ zs).c)(he:cy es seen=[]):BQ m=BQ (aJ zs):=by
 have k (i j:Nat) (hi:i <4) (hj:j <4):m.c i j=(aJ zs).c i j:=by
  have:=(h i j hi hj).2
  rw[he] at this
  simpa [rS] using this
 simp only[BQ,k 0 0 (by decide) (by decide),k 0 1 (by decide) (by decide),k 0 2 (by decide) (by decide),k 0 3 (by decide) (by decide),k 1 0 (by decide) (by decide),k 1 1 (by decide) (by decide),k 1 2 (by decide) (by decide),k 1 3 (by decide) (by decide),k 2 0 (by decide) (by decide),k 2 1 (by decide) (by decide),k 2 2 (by decide) (by decide),k 2 3 (by decide) (by decide),k 3 0 (by decide) (by decide),k 3 1 (by decide) (by decide),k 3 2 (by decide) (by decide),k 3 3 (by decide) (by decide)]
theorem aoY{z:av}(h:q <4):nth [zI z.w0,zI z.w1,zI z.w2,zI z.w3] ((q:Int).toNat*1)=some (zI (pI z q)):=by
 rcases Kq h with rfl|rfl|rfl|rfl<;>rfl
theorem abv{m:iX}{a:Nat}(h:a <4)(k:0≤j∧j <4):nth (BQ m) (0+(a:Int).toNat*4+j.toNat*1)=some (zI (m.c a j.toNat)):=by
 obtain⟨b,rfl⟩:=Int.eq_ofNat_of_zero_le k.1
 exact DV h (by omega)
theorem abu{m:iX}{a:Nat}{v:Int}(h:a <4)(k:0≤j∧j <4):de (BQ m) (0+(a:Int).toNat*4+j.toNat*1) [zI v]=BQ (q5 m a j.toNat v):=by
 obtain⟨b,rfl⟩:=Int.eq_ofNat_of_zero_le k.1
 exact aiM h (by omega)
theorem abw{m:iX}{a:Nat}{v:Value}(h:a <4)(k:0≤j∧j <4):Nat.ble ((0+(a:Int).toNat*4+j.toNat*1)+[v].length) (BQ m).length=true:=by
 obtain⟨b,rfl⟩:=Int.eq_ofNat_of_zero_le k.1
 exact aiN h (by omega)
theorem aRY(z:av):EqV zT 122 (v4 z.w0 z.w1 z.w2 z.w3) (v4 0 0 0 0) (z.w0==0&&(z.w1==0&&(z.w2==0&&(z.w3==0&&true)))):=Lf (aDN (dep:=9998) (mI Tryz.typeInfo122 Tryz.underlying122 rfl rfl rfl rfl rfl rfl) lY _ _ _ _ _ _ _ _)
theorem aL3:nH zT 122:=by unfold nH;kernel_rfl
theorem NS{F F1:List (P4×Value)}{k:P4}(h1:((∃u,rH k F 0=some u)∧F1=F)∨(rH k F 0=none∧F1=F++[(k,zI 0)]))(hl:NU (zI 0) false k F= zI n):NU (zI 0) false k F1= zI n:=by
 rcases h1 with ⟨_,rfl⟩| ⟨hf,rfl⟩
 ·exact hl
 simp only[NU,lkM,Ae (v:= zI 0) hf]
 simpa [NU,lkM,hf] using hl
theorem acg{v:Value}{zs:List av}{ro:Nat→Option Obj}(hl:bI ro v 8 cN zs)(hn:zs.length≤100000)(hp:∀x∈zs,∀q,0≤pI x q∧pI x q≤4):eo zT 47 [v] ro [] (fun r Y=>r= .agg ⟨BQ (aJ zs)⟩∧Y=[]):=by
 obtain⟨fp,rh,q9,eJ,rfl,tq,k8,me⟩:=hl
 refine bA au [] [] bn<|zD 2<|jn fun b2=>zD 3<|jmk G3 fun EL L11 adp=>zD 10<|ez [1,1,0,1,0,0] [] (fun(zz:Nat×(List (P4×Value))×Cells)=>[(2,zP b2),(3,(.map (some EL))),(12,.slice fp zs.length eJ),(13,zI (zs.length:Int)),(14,zI (zz.1:Int))]) (fun(zz:Nat×(List (P4×Value))×Cells)=>[.l zz.2.2,.b b2 (.cells ⟨[zI 0,zI 0,zI 0,zI 0,zI 0,zI 0,zI 0,zI 0,zI 0,zI 0,zI 0,zI 0,zI 0,zI 0,zI 0,zI 0]⟩ 112 (0,0))]) (fun(zz:Nat×(List (P4×Value))×Cells)=>zz.1≤zs.length∧jH EL G3 zz.2.1 zz.2.2∧CF zz.2.1 (zs.take zz.1)) (fun(zz:Nat×(List (P4×Value))×Cells)=>zs.length-zz.1) (⟨0,[],L11⟩) ⟨by dsimp only;omega,adp,CF.nil⟩ [0,1] ?_
 rintro⟨k,F,LM⟩ hI K1 bM rest
 dsimp only at hI
 refine zD 5<|zJ 15 ((k:Int) <(zs.length:Int)) (fun h1=>?_) fun h1=>?_
 ·
  refine zD 6 ?_
  obtain⟨AT,oz⟩:=zG zs k
  refine ij eJ 8 k8 oz<|jl 0 (me _ _ oz)<|jn fun b5=>jd 2 [0] ?_
  obtain⟨nk,hlk,hnk⟩:=hI.2.2.look (pk AT)
  have P3:(zs.take k).length=k:=by rw[List.length_take];omega
  refine jd 4 [0]<|m8 [3,5] ⟨fun z2 t3 sB=>?_,fun z5 t6 Sw=>?_,trivial⟩
  ·
   refine jlu (kv:=G3) (F:=F) (r:=EL) (K:=122) (pk AT) (zI 0) false [1] LM abY (fun s _ hZ=>hI.2.1.has hZ)<|bC sB [0,1,2]<|jw 3 (zI nk) hlk<|ja (nk+1) (by omega)<|aN 5 fun Za ZO hL8=>jme (kv:=G3) (F:=F) (r:=EL) (L:=LM) 1 (pk AT) abY lY hI.2.1 fun Fm4 bm4 cm4 Lm4 bc7 hm4=>iS hL8 []<|aN 6 fun Y6 ZN XU=>zD 1<|bC XU [0,1,2]<|aN 7 fun HY H4 yt=>jes 0 (zI (nk+1)) hm4 fun Lm7 hm7=>eO yt<|zD 2<|ja ((k:Int)+1) (by omega)<|zD 2<|bO bM (⟨k+1,_,Lm7⟩) ⟨by dsimp only;omega,hm7,by dsimp only;rw[gA oz];exact hI.2.2.upd (by assumption) hlk hnk⟩ (by dsimp only;omega) [0,2] (Sub.refl _)
  refine jme (kv:=G3) (F:=F) (r:=EL) (L:=LM) 1 (pk AT) abY lY hI.2.1 fun Fm9 bm9 cm9 Lm9 aCS hm9=>eO Sw<|m8 [3,6] ⟨fun z11 t12 KU=>?_,fun z14 t15 OM=>?_,trivial⟩
  ·
   refine jlu (kv:=G3) (F:=Fm9) (r:=EL) (K:=122) (pk AT) (zI 0) false [0] Lm9 abY (fun s _ hZ=>hm9.own.has hZ)<|eO KU<|jw 3 (zI nk) (NS aCS hlk)<|ja (nk+1) (by omega)<|aN 6 fun ak8 alo KT=>zD 1<|bC KT [0,1,2]<|aN 7 fun au5 avY aeg=>jes 0 (zI (nk+1)) hm9 fun aS1 azz=>eO aeg<|zD 2<|ja ((k:Int)+1) (by omega)<|zD 2<|bO bM (⟨k+1,_,aS1⟩) ⟨by dsimp only;omega,azz,by dsimp only;rw[gA oz];exact hI.2.2.upd (by assumption) hlk hnk⟩ (by dsimp only;omega) [0,2] (Sub.refl _)
  refine zD 1<|eO OM<|aN 3 fun au4 avX aef=>jlu (kv:=G3) (F:=Fm9) (r:=EL) (K:=122) (pk AT) (zI 0) false [0] Lm9 abY (fun s _ hZ=>hm9.own.has hZ)<|eO aef<|jw 3 (zI nk) (NS aCS hlk)<|ja (nk+1) (by omega)<|aN 7 fun au3 avW SC=>jes 0 (zI (nk+1)) hm9 fun aS0 aq5=>eO SC<|zD 2<|ja ((k:Int)+1) (by omega)<|zD 2<|bO bM (⟨k+1,_,aS0⟩) ⟨by dsimp only;omega,aq5,by dsimp only;rw[gA oz];exact hI.2.2.upd (by assumption) hlk hnk⟩ (by dsimp only;omega) [0,2] (Sub.refl _)
 refine zD 4<|jn fun b6=>jf [1] LM (fun aZj aqx art=>?_)
 have hCF:CF F zs:=by have:=hI.2.2;rwa[show k=zs.length by omega,List.take_length] at this
 obtain⟨AS,Hh,rfl,hE1⟩:=hI.2.1
 refine zD 5<|jmR (art _ (.head _)) fun r27=>jg 0 [.b r27 (ui EL Hh [])]<|zD 2<|ez [1,1,1,1,0,1,0,0] [] (fun(zz:(List Nat)×iX)=>[(2,zP b2),(6,zP b6),(27,zP r27)]) (fun(zz:(List Nat)×iX)=>[.b r27 (ui EL Hh zz.1),.b b6 (.cells ⟨[zI (zz.2.c 0 0),zI (zz.2.c 0 1),zI (zz.2.c 0 2),zI (zz.2.c 0 3),zI (zz.2.c 1 0),zI (zz.2.c 1 1),zI (zz.2.c 1 2),zI (zz.2.c 1 3),zI (zz.2.c 2 0),zI (zz.2.c 2 1),zI (zz.2.c 2 2),zI (zz.2.c 2 3),zI (zz.2.c 3 0),zI (zz.2.c 3 1),zI (zz.2.c 3 2),zI (zz.2.c 3 3)]⟩ 112 (0,0)),.b b2 (.cells ⟨[zI 0,zI 0,zI 0,zI 0,zI 0,zI 0,zI 0,zI 0,zI 0,zI 0,zI 0,zI 0,zI 0,zI 0,zI 0,zI 0]⟩ 112 (0,0))]) (fun(zz:(List Nat)×iX)=>DD zz.2 (fun i j=>rS i j (cy AS zz.1)) (aJ zs).c) (fun(zz:(List Nat)×iX)=>(cy AS zz.1).length) (⟨[],⟨fun _ _=>0⟩⟩) (DD.init hCF hE1) [0,1,2] ?_
 rintro⟨seen,m⟩ hI K21 aj9 rest
 dsimp only at hI
 refine zD 2<|jmN (it:=r27) (kv:=G3) (seen:=seen) 0 (art _ (.head _)) hE1 (fun k28 v28 e28 az0 XQ arq ayF=>?_) (fun ap8=>?_)
 ·
  obtain⟨Ff,amj,azq⟩:=hCF.val _ az0
  obtain⟨kp,ap8,hkz⟩:=hCF.key _ az0
  dsimp only at amj hkz
  subst amj
  subst hkz
  have hpz:=hp kp ap8
  have cz:=Fs XQ
  refine jg 0 [.b r27 (ui EL Hh (seen++[e28.born]))]<|zD 8<|jmE (it:=r27) 0 (art _ (.head _)) hE1 XQ arq ayF<|jg 0 [.b r27 (ui EL Hh (seen++[e28.born]))]<|zD 2<|jn fun b7=>jd 8 [0,0]<|jeq aL3 (aRY kp)<|zD 1<|js 35 (kp.w0==0&&(kp.w1==0&&(kp.w2==0&&(kp.w3==0&&true)))) (fun h21=>?_) (fun h21=>?_)
  ·
   refine zD 2<|bO aj9 (⟨(seen++[e28.born]),m⟩) (hI.zero (n:=0) hE1 XQ arq (Ze (by assumption))) cz [1,2,3] (Sub.refl _)
  refine jd 8 [0]<|ez [1,1,1,1,0,1,0,0,1,1,0,1,1,1,0,0] [K21] (fun(zz:Nat×iX)=>[(2,zP b2),(6,zP b6),(8,zI Ff),(27,zP r27),(36,.agg ⟨[zI kp.w0,zI kp.w1,zI kp.w2,zI kp.w3]⟩),(37,zI (zz.1:Int))]) (fun(zz:Nat×iX)=>[.b r27 (ui EL Hh (seen++[e28.born])),.b b6 (.cells ⟨[zI (zz.2.c 0 0),zI (zz.2.c 0 1),zI (zz.2.c 0 2),zI (zz.2.c 0 3),zI (zz.2.c 1 0),zI (zz.2.c 1 1),zI (zz.2.c 1 2),zI (zz.2.c 1 3),zI (zz.2.c 2 0),zI (zz.2.c 2 1),zI (zz.2.c 2 2),zI (zz.2.c 2 3),zI (zz.2.c 3 0),zI (zz.2.c 3 1),zI (zz.2.c 3 2),zI (zz.2.c 3 3)]⟩ 112 (0,0)),.b b7 (.cells ⟨[zI kp.w0,zI kp.w1,zI kp.w2,zI kp.w3]⟩ 122 (0,0)),.b b2 (.cells ⟨[zI 0,zI 0,zI 0,zI 0,zI 0,zI 0,zI 0,zI 0,zI 0,zI 0,zI 0,zI 0,zI 0,zI 0,zI 0,zI 0]⟩ 112 (0,0))]) (fun(zz:Nat×iX)=>zz.1≤4∧DD zz.2 (Xr kp Ff zz.1 (fun i j=>rS i j (cy AS (seen++[e28.born])))) (aJ zs).c) (fun(zz:Nat×iX)=>4-zz.1) (⟨0,m⟩) ⟨by dsimp only;omega,hI.open_ hE1 XQ arq ayF⟩ [1,2,0,3] ?_
  rintro⟨q,m⟩ hJ K22 aCM rest
  dsimp only at hJ
  refine zD 5<|zJ 38 ((q:Int) <4) (fun I6=>?_) fun I6=>?_
  ·
   refine zD 7<|jai (l:=[zI kp.w0,zI kp.w1,zI kp.w2,zI kp.w3]) (q:Int) 4 1 false (by omega) (v:= zI (pI kp q)) (show nth [_,_,_,_] _=_ from aoY (by omega))<|zD 8<|zJ 42 ((pI kp q)>0) (fun Eb=>?_) fun Eb=>?_
   ·
    refine zD 4<|ja ((pI kp q)-1) (by have:=hpz q;omega) ?_
    refine IS (b:=b6) (off:=0) (len:=4) (sz:=4) (q:Int) (by omega)<|IS (b:=b6) (off:=0+(q:Int).toNat*4) (len:=4) (sz:=1) ((pI kp q)-1) (by have:=hpz q;omega) ?_
    refine oJ (b:=b6) (off:=0+(q:Int).toNat*4+((pI kp q)-1).toNat*1) (m:=1) (vs:=[zI (m.c q (pI kp q-1).toNat)]) 0 [1] [(b6,.cells ⟨[zI (m.c 0 0),zI (m.c 0 1),zI (m.c 0 2),zI (m.c 0 3),zI (m.c 1 0),zI (m.c 1 1),zI (m.c 1 2),zI (m.c 1 3),zI (m.c 2 0),zI (m.c 2 1),zI (m.c 2 2),zI (m.c 2 3),zI (m.c 3 0),zI (m.c 3 1),zI (m.c 3 2),zI (m.c 3 3)]⟩ 112 (0,0))] (fun s _ hZ=>rY (hZ _ (.head _)) (abv (m:=m) (by omega) (by have:=hpz q;omega))) ?_
    refine zD 1<|ja ((m.c q (pI kp q-1).toNat)+Ff) (by have h7:=hJ.2.bound (fun i j=>MS (ahH hCF hE1)) azq.1 (i:=q) (j:=(pI kp q-1).toNat) (by omega) (by have:=hpz q;omega);have h8:=S1 zs q (pI kp q-1).toNat;omega) ?_
    refine IS (b:=b6) (off:=0) (len:=4) (sz:=4) (q:Int) (by omega)<|IS (b:=b6) (off:=0+(q:Int).toNat*4) (len:=4) (sz:=1) ((pI kp q)-1) (by have:=hpz q;omega) ?_
    refine aN 10 fun au0 avT aed=>jsx 1 b6 (0+(q:Int).toNat*4+((pI kp q)-1).toNat*1) [zI (m.c 0 0),zI (m.c 0 1),zI (m.c 0 2),zI (m.c 0 3),zI (m.c 1 0),zI (m.c 1 1),zI (m.c 1 2),zI (m.c 1 3),zI (m.c 2 0),zI (m.c 2 1),zI (m.c 2 2),zI (m.c 2 3),zI (m.c 3 0),zI (m.c 3 1),zI (m.c 3 2),zI (m.c 3 3)] [zI ((m.c q (pI kp q-1).toNat)+Ff)] 112 (by intro v hv;rw[List.mem_singleton] at hv;subst hv;rfl) (abw (m:=m) (by omega) (by have:=hpz q;omega)) ?_
    refine jmw 0 [.b b6 (.cells ⟨[zI ((q5 m q (pI kp q-1).toNat (m.c q (pI kp q-1).toNat+Ff)).c 0 0),zI ((q5 m q (pI kp q-1).toNat (m.c q (pI kp q-1).toNat+Ff)).c 0 1),zI ((q5 m q (pI kp q-1).toNat (m.c q (pI kp q-1).toNat+Ff)).c 0 2),zI ((q5 m q (pI kp q-1).toNat (m.c q (pI kp q-1).toNat+Ff)).c 0 3),zI ((q5 m q (pI kp q-1).toNat (m.c q (pI kp q-1).toNat+Ff)).c 1 0),zI ((q5 m q (pI kp q-1).toNat (m.c q (pI kp q-1).toNat+Ff)).c 1 1),zI ((q5 m q (pI kp q-1).toNat (m.c q (pI kp q-1).toNat+Ff)).c 1 2),zI ((q5 m q (pI kp q-1).toNat (m.c q (pI kp q-1).toNat+Ff)).c 1 3),zI ((q5 m q (pI kp q-1).toNat (m.c q (pI kp q-1).toNat+Ff)).c 2 0),zI ((q5 m q (pI kp q-1).toNat (m.c q (pI kp q-1).toNat+Ff)).c 2 1),zI ((q5 m q (pI kp q-1).toNat (m.c q (pI kp q-1).toNat+Ff)).c 2 2),zI ((q5 m q (pI kp q-1).toNat (m.c q (pI kp q-1).toNat+Ff)).c 2 3),zI ((q5 m q (pI kp q-1).toNat (m.c q (pI kp q-1).toNat+Ff)).c 3 0),zI ((q5 m q (pI kp q-1).toNat (m.c q (pI kp q-1).toNat+Ff)).c 3 1),zI ((q5 m q (pI kp q-1).toNat (m.c q (pI kp q-1).toNat+Ff)).c 3 2),zI ((q5 m q (pI kp q-1).toNat (m.c q (pI kp q-1).toNat+Ff)).c 3 3)]⟩ 112 (0,0))] (L:=[(b6,.cells ⟨de [zI (m.c 0 0),zI (m.c 0 1),zI (m.c 0 2),zI (m.c 0 3),zI (m.c 1 0),zI (m.c 1 1),zI (m.c 1 2),zI (m.c 1 3),zI (m.c 2 0),zI (m.c 2 1),zI (m.c 2 2),zI (m.c 2 3),zI (m.c 3 0),zI (m.c 3 1),zI (m.c 3 2),zI (m.c 3 3)] (0+(q:Int).toNat*4+((pI kp q)-1).toNat*1) [zI ((m.c q (pI kp q-1).toNat)+Ff)]⟩ 112 (0,0))]) (by rw[abu (m:=m) (by omega) (by have:=hpz q;omega)];rfl) ?_
    refine iS aed []<|zD 2<|ja ((q:Int)+1) (by omega)<|zD 2<|bO aCM (⟨q+1,(q5 m q (pI kp q-1).toNat (m.c q (pI kp q-1).toNat+Ff))⟩) ⟨by dsimp only;omega,hJ.2.add azq.1 (by assumption) (by omega)⟩ (by dsimp only;omega) [1,0,2,3] (Sub.refl _)
   refine zD 3<|ja ((q:Int)+1) (by omega)<|zD 2<|bO aCM (⟨q+1,m⟩) ⟨by dsimp only;omega,hJ.2.skip (by assumption)⟩ (by dsimp only;omega) [0,1,2,3] (Sub.refl _)
  refine zD 2<|bO aj9 (⟨(seen++[e28.born]),m⟩) (DD.close (z:=kp) (n:=Ff) (by have:=hJ.2;rwa[show q=4 by omega] at this)) cz [0,1,3] (Sub.refl _)
 refine jg 0 [.b r27 (ui EL Hh seen)]<|jd 11 [1,2]<|aE q0.a (.agg ⟨[zI (m.c 0 0),zI (m.c 0 1),zI (m.c 0 2),zI (m.c 0 3),zI (m.c 1 0),zI (m.c 1 1),zI (m.c 1 2),zI (m.c 1 3),zI (m.c 2 0),zI (m.c 2 1),zI (m.c 2 2),zI (m.c 2 3),zI (m.c 3 0),zI (m.c 3 1),zI (m.c 3 2),zI (m.c 3 3)]⟩) [2] [] [] aqx ⟨_,_,rfl,rfl,by rw[←hI.fin ap8],rfl⟩
theorem Pj:AF:=fun hl hn hp=>acg hl hn hp
theorem Ac:∀(l:List Int) (a:Int),l.foldl min a=a∨l.foldl min a∈l
 | [],_=> .inl rfl
 |y::l,a=>by
  simp only[List.foldl_cons]
  rcases Ac l (min a y) with h|h
  ·rw[h]
   rcases(by omega:min a y=a∨min a y=y) with e|e
   ·exact .inl e
   rw[e];exact .inr List.mem_cons_self
  exact .inr (List.mem_cons_of_mem _ h)
theorem pK:∀ {l:List Int},l≠[]→iD l∈l
 | [],h=>absurd rfl h
 |y::l,_=>by
  show l.foldl min y∈_
  rcases Ac l y with h|h
  ·rw[h];exact List.mem_cons_self
  exact List.mem_cons_of_mem _ h
theorem wF{l m:List Int}(h:l.Perm m)(hl:l≠[]):iD l=iD m:=by
 have h1:=tF (h.mem_iff.1 (pK hl))
 have h2:=tF (h.mem_iff.2 (pK (fun e=>hl (by rw[e] at h;exact h.eq_nil))))
 omega
theorem Gh:∀(l:List Int) (a:Int),a≤l.foldl max a∧∀x∈l,x≤l.foldl max a
 | [],a=>⟨Int.le_refl _,fun _ h=>(by cases h)⟩
 |y::l,a=>by
  obtain⟨h1,h2⟩:=Gh l (max a y)
  refine⟨by simp only[List.foldl_cons];omega,fun x hx=>?_⟩
  rcases List.mem_cons.1 hx with rfl|hx
  ·simp only[List.foldl_cons];omega
  exact h2 x hx
theorem Ad:∀(l:List Int) (a:Int),l.foldl max a=a∨l.foldl max a∈l
 | [],_=> .inl rfl
 |y::l,a=>by
  simp only[List.foldl_cons]
  rcases Ad l (max a y) with h|h
  ·rw[h]
   rcases(by omega:max a y=a∨max a y=y) with e|e
   ·exact .inl e
   rw[e];exact .inr List.mem_cons_self
  exact .inr (List.mem_cons_of_mem _ h)
theorem DW{l:List Int}{x:Int}(h:x∈l):x≤jE l:=by
 cases l with
 |nil=>cases h
 |cons y l=>
  rcases List.mem_cons.1 h with rfl|h
  ·exact(Gh l _).1
  exact(Gh l _).2 x h
theorem nS:∀ {l:List Int},l≠[]→jE l∈l
 | [],h=>absurd rfl h
 |y::l,_=>by
  show l.foldl max y∈_
  rcases Ad l y with h|h
  ·rw[h];exact List.mem_cons_self
  exact List.mem_cons_of_mem _ h
theorem Bp{l m:List Int}(h:l.Perm m)(hl:l≠[]):jE l=jE m:=by
 have h1:=DW (h.mem_iff.1 (nS hl))
 have h2:=DW (h.mem_iff.2 (nS (fun e=>hl (by rw[e] at h;exact h.eq_nil))))
 omega
theorem gi{α β:Type}{f:α→β}{l:List α}(h:l≠[]):l.map f≠[]:=fun e=>h (List.map_eq_nil_iff.1 e)
abbrev fsT:List gV:=[⟨2,1,true⟩,⟨0,1,true⟩]
theorem cC(h:0≤n∧n≤4):n9 (aS n):=amY (fs:=[]) h (by decide) (by simp) .nil
theorem cV:fH (aS n):=amX (fs:=[]) (by decide) (by simp)
theorem cCT:n9 (CC 2 fsT):=amY (by decide) (by decide) (by decide) (by decide)
theorem cVT:fH (CC 2 fsT):=amX (by decide) (by decide)
theorem rT:sY (aS 2)=4:=by kernel_rfl
theorem rL:iD ((eW (aS 1) (dg (aS 1)) (fun _=>true) (iN (aS 1))).map Ex)=2:=by kernel_rfl
theorem rLn:(eW (aS 1) (dg (aS 1)) (fun _=>true) (iN (aS 1))).length=0→False:=by
 have e:Nat.beq (eW (aS 1) (dg (aS 1)) (fun _=>true) (iN (aS 1))).length 0=false:=by kernel_rfl
 intro h;rw[h] at e;cases e
theorem r1n:(eW (aS 1) (dg (aS 1)) (di (aS 1).gone (aS 1).new (aS 1).af) (iN (aS 1))).length=0→False:=by
 have e:Nat.beq (eW (aS 1) (dg (aS 1)) (di (aS 1).gone (aS 1).new (aS 1).af) (iN (aS 1))).length 0=false:=by kernel_rfl
 intro h;rw[h] at e;cases e
theorem r2n:(eW (aS 2) (dg (aS 2)) (di (aS 2).gone (aS 2).new (aS 2).af) (iN (aS 2))).length=0→False:=by
 have e:Nat.beq (eW (aS 2) (dg (aS 2)) (di (aS 2).gone (aS 2).new (aS 2).af) (iN (aS 2))).length 0=false:=by kernel_rfl
 intro h;rw[h] at e;cases e
theorem rM1:iD ((eW (aS 2) (dg (aS 2)) (di (aS 2).gone (aS 2).new (aS 2).af) (iN (aS 2))).map fun x=>x.af)=0:=by kernel_rfl
theorem rM2:jE ((eW (aS 2) (dg (aS 2)) (di (aS 2).gone (aS 2).new (aS 2).af) (iN (aS 2))).map fun x=>x.af)=2:=by kernel_rfl
theorem rU:xw (aJ (eW (aS 1) (dg (aS 1)) (di (aS 1).gone (aS 1).new (aS 1).af) (iN (aS 1)))) (((eW (aS 1) (dg (aS 1)) (di (aS 1).gone (aS 1).new (aS 1).af) (iN (aS 1))).length:Nat):Int) (aS 1).after.length (aS 1).before.length=[[0,0],[2,1]]:=by kernel_rfl
theorem rW:Jv (CC 2 fsT) (iN (CC 2 fsT))=some 1:=by kernel_rfl
theorem rL1:lH 1 4=[0]:=by kernel_rfl
theorem rA:(akT (af1 (aJ (eW (aS 2) (dg (aS 2)) (di (aS 2).gone (aS 2).new (aS 2).af) (iN (aS 2)))) (((eW (aS 2) (dg (aS 2)) (di (aS 2).gone (aS 2).new (aS 2).af) (iN (aS 2))).length:Nat):Int) (aS 2).after.length (aS 2).before.length)).2.2=(2,0):=by kernel_rfl
theorem WI{ro:Nat→Option Obj}(hK:gh ro l (aS 2)):B4 zT 11 [.agg ⟨l⟩] ro [] (fun r Y=>r= .tuple ⟨[zI 4,zI 0]⟩∧Y=[]):=
 (ab0 hK (cC (by decide)) cV).mono fun v X h=>⟨by rw[h.1,rT];rfl,h.2⟩
theorem aax{ro:Nat→Option Obj}(hK:gh ro l (aS 1)):B4 zT 44 [.agg ⟨l⟩] ro [] (fun r Y=>r= .tuple ⟨[zI 2,zI 0]⟩∧Y=[]):=
 (aje hK (cC (by decide)) cV).mono fun v X ⟨zs,m,e,hz,hY,hr,h⟩=>by
  rcases h with ⟨h,_⟩| ⟨h,hm,he⟩
  ·exact(rLn (by rw[←hz.length_eq,h];rfl)).elim
  exact⟨by rw[hr,hm,he,wF (hz.map Ex) (gi h),rL],hY⟩
theorem ah4{ro:Nat→Option Obj}(hK:gh ro l (aS 1)):B4 zT 43 [.agg ⟨l⟩] ro [] (fun r Y=>∃v,r= .tuple ⟨[v,zI 0]⟩∧∀aK,Knows aK Y→LL aK v [[0,0],[2,1]]):=
 (apQ hK cV (mb (cC (by decide))) (tT hK (cC (by decide)) cV) Pj).mono fun r X ⟨zs,v,e,hz,hr,h⟩=>by
  rcases h with ⟨h,_⟩| ⟨h,he,hl⟩
  ·exact(r1n (by rw[←hz.length_eq,h];rfl)).elim
  refine⟨v,by rw[hr,he],fun aK hk=>?_⟩
  have:=hl aK hk
  rwa[Po hz,hz.length_eq,rU] at this
theorem aaw{ro:Nat→Option Obj}(hK:gh ro l (aS 2)):B4 zT 21 [.agg ⟨l⟩] ro [] (fun r Y=>r= .tuple ⟨[.agg ⟨[zI 0,zI 2]⟩,zI 0]⟩∧Y=[]):=
 (ab9 hK cV (mb (cC (by decide))) (tT hK (cC (by decide)) cV)).mono fun r X ⟨zs,a,b,e,hz,hY,hr,h⟩=>by
  rcases h with ⟨h,_⟩| ⟨h,ha,hb,he⟩
  ·exact(r2n (by rw[←hz.length_eq,h];rfl)).elim
  exact⟨by rw[hr,ha,hb,he,wF (hz.map _) (gi h),Bp (hz.map _) (gi h),rM1,rM2],hY⟩
theorem aox{ro:Nat→Option Obj}(hK:gh ro l (aS 2)):B4 zT 15 [.agg ⟨l⟩] ro [] (fun r Y=>∃a b,r= .tuple ⟨[zI a,zI b,zI 2,zI 0]⟩∧Y=[]):=
 (aMl hK cV (mb (cC (by decide))) (tT hK (cC (by decide)) cV) Pj).mono fun r X ⟨zs,a,b,w,e,hz,hY,hr,h⟩=>by
  rcases h with ⟨h,_⟩| ⟨h,ha⟩
  ·exact(r2n (by rw[←hz.length_eq,h];rfl)).elim
  rw[Po hz,hz.length_eq] at ha
  have h2:=congrArg (fun x:Int×Int×Int×Int=>x.2.2) ha
  dsimp only at h2
  rw[rA] at h2
  cases h2
  exact⟨a,b,hr,hY⟩
theorem aav{ro:Nat→Option Obj}(hK:gh ro l (CC 2 fsT)):eo zT 9 [.agg ⟨l⟩] ro [] (fun r Y=>∃v,r= .tuple ⟨[v,zI 0]⟩∧az v 1 3 cJ [0] Y):=
 Fn.mono (apA hK cVT (mb cCT) (tT hK cCT cVT) (by decide)) fun en s' ⟨r,X,h1,h2,v,e,hr,h⟩=>⟨r,X,h1,h2,by
  rcases h with ⟨m,hm,ho,he⟩| ⟨hm,_⟩
  ·rw[rW] at hm;cases hm
   rw[rL1] at ho
   exact⟨v,by rw[hr,he],ho⟩
  rw[rW] at hm;cases hm⟩
theorem abT{ro:Nat→Option Obj}{v4 vf:Value}{fa:Option Addr}{fs:List gV}(h:gh ro [v0,v1,.slice fa 0 fc,v3,v4,v5,v6,v7,zI 1,zI 1,zI n,vb] (aS n))(hf:bI ro vf 3 vM fs):gh ro [v0,v1,.slice fa 0 fc,v3,v4,v5,v6,v7,zI 1,zI 1,zI n,vf] (CC n fs):=by
 obtain⟨w0,w1,w3,w4,w5,w6,w7,wb,ga,gc,hv,e,h1,h2,h3,h4,h5,h6,h7,_⟩:=h
 cases e
 exact⟨_,_,_,_,_,_,_,_,_,_,hv,rfl,h1,h2,h3,h4,h5,h6,h7,hf⟩
theorem MH{v4:Value}{fa fb:Option Addr}{fn fd:Nat}(h:∀v∈[v0,v1,v3,v4,v5,v6,v7,vb],single v=true):∀v∈[v0,v1,.slice fa 0 fc,v3,v4,v5,v6,v7,zI 1,zI 1,zI 2,.slice fb fn fd],single v=true:=by
 simp only[List.mem_cons,List.not_mem_nil,or_false] at h ⊢
 rintro v (rfl|rfl|rfl|rfl|rfl|rfl|rfl|rfl|rfl|rfl|rfl|rfl)<;>first|rfl|exact h _ (by simp)
theorem LL.up{ro aK:Nat→Option Obj}{v:Value}{W:List (List Int)}(h:LL ro v W)(hs:Sub ro aK):LL aK v W:=by
 obtain⟨ws,h1,h2⟩:=h
 exact⟨ws,h1.up hs,h2.imp fun _ _ k=>k.up hs⟩
theorem aDL(a b c d:Int):EqV zT 64 (.agg ⟨[zI a,zI b]⟩) (.agg ⟨[zI c,zI d]⟩) (a==c&&(b==d&&true)):=
 Lf (tR (dep:=9999) (mI Tryz.typeInfo64 Tryz.underlying64 rfl rfl rfl rfl rfl rfl) Tryz.stoodInHeld64 (.cons (by decide) (jO lY rfl) (jO lY rfl) (nF lY _ _) (.cons (by decide) (jO lY rfl) (jO lY rfl) (nF lY _ _) .nil)))
theorem aL2:nH zT 64:=by unfold nH;kernel_rfl
theorem Uc{ro:Nat→Option Obj}:B4 zT 14 [] ro [] (fun r Y=>r= .bool true∧Y=[]):=by
 refine zo au [] [] bn fun fr=>zD 6<|jc (vs:=[zI 2]) [] (Jo) ?_
 rintro _ Y16 ⟨l16,rfl,aQo,OM⟩
 refine jf [0] Y16 (fun AI bV iT=>?_)
 have aQ3:=aQo _ iT
 refine Kx (vs:=[(.agg ⟨l16⟩)]) [] (fun _ _ h=>h) (WI aQ3) ?_
 rintro _ _ ⟨rfl,rfl⟩
 refine jg 0 []<|zD 8<|jc (vs:=[zI 1]) [] (Jo) ?_
 rintro _ Y21 ⟨l21,rfl,aQn,XW⟩
 refine jf [0] Y21 (fun ro6 kD YU=>?_)
 have aj9:=aQn _ YU
 refine Kx (vs:=[(.agg ⟨l21⟩)]) [] (fun _ _ h=>h) (ah4 aj9) ?_
 rintro _ Y22 ⟨v22,rfl,aOo⟩
 refine zD 5<|jf [0] Y22 (fun ro9 ry hk8=>?_)
 have aQp:=aOo _ hk8
 refine zD 3<|jc (vs:=[zI 2]) [] (Jo) ?_
 rintro _ Y26 ⟨ve,rfl,aQm,OL⟩
 refine jf [0] Y26 (fun aZo ayS aOD=>?_)
 have aQ2:=aQm _ aOD
 refine Kx (vs:=[(.agg ⟨ve⟩)]) [] (fun _ _ h=>h) (aaw aQ2) ?_
 rintro _ _ ⟨rfl,rfl⟩
 refine jg 0 []<|zD 3<|jn fun b5=>jd 5 [0]<|jc (vs:=[zI 1]) [] (Jo) ?_
 rintro _ Y31 ⟨l31,rfl,aQl,XV⟩
 refine jf [0] Y31 (fun aZm ayQ ajN=>?_)
 have aQ1:=aQl _ ajN
 refine Kx (vs:=[(.agg ⟨l31⟩)]) [] (fun _ _ h=>h) (aax aQ1) ?_
 rintro _ _ ⟨rfl,rfl⟩
 refine jg 0 []<|zD 8<|jc (vs:=[zI 2]) [] (Jo) ?_
 rintro _ Y36 ⟨l36,rfl,aQk,Sx⟩
 refine jp (vs:=[zI 2,zI 1,.bool true]) [] [] (fun aA hs hZ=>aD1)<|jp (vs:=[zI 0,zI 1,.bool true]) [] [] (fun aA hs hZ=>aD1)<|jn fun b39=>jf [1,0] (Y36++[(b39,.cells ⟨[zI 2,zI 1,.bool true,zI 0,zI 1,.bool true]⟩ 57 (0,0))]) (fun aZk ayP XO=>?_)
 have aQZ:=aQk _ (Knows.left XO)
 have aOS:=bS (sz:=3) (enc:=vM) (T:=57) [⟨2,1,true⟩,⟨0,1,true⟩] (Knows.right XO _ (.head _)) (fun _ _=>rfl)
 obtain⟨v0,v1,v3,v4,v5,v6,v7,vb,fa,fc,rfl,aNw⟩:=Sx
 refine jp (vs:=[.agg ⟨[v0,v1,(.slice fa 0 fc),v3,v4,v5,v6,v7,zI 1,zI 1,zI 2,vb]⟩,(.slice (some ⟨b39,0,none⟩) 2 2)]) [] [] (fun aA hs hZ=>aD0 (MH aNw))<|jc (vs:=[.agg ⟨[v0,v1,(.slice fa 0 fc),v3,v4,v5,v6,v7,zI 1,zI 1,zI 2,(.slice (some ⟨b39,0,none⟩) 2 2)]⟩]) [] (aav (abT aQZ aOS)) ?_
 rintro _ Y41 ⟨v41,rfl,aN1⟩
 refine zD 8<|jc (vs:=[zI 2]) [] (Jo) ?_
 rintro _ Y45 ⟨l45,rfl,aQj,aAF⟩
 refine jf [0] Y45 (fun aZi ayO aOA=>?_)
 have aQY:=aQj _ aOA
 refine Kx (vs:=[(.agg ⟨l45⟩)]) [] (fun _ _ h=>h) (aox aQY) ?_
 rintro _ _ ⟨qa,qb,rfl,rfl⟩
 refine jg 0 []<|jd 49 [1]<|jeq aL2 (aDL 0 2 0 2)<|zD 3<|jn fun b92=>jn fun b93=>jn fun b94=>jf [2,1,0] ((b92,.cells ⟨[zI 0,zI 0]⟩ 3 (0,0))::((b93,.cells ⟨[zI 2,zI 1]⟩ 3 (0,0))::[(b94,.cells ⟨[.slice (some ⟨b92,0,none⟩) 2 2,.slice (some ⟨b93,0,none⟩) 2 2]⟩ 22 (0,0))])) (fun aZh ayN ars=>?_)
 obtain⟨wsM,hsM,haM⟩:=aQp.up ((((ayS.trans ayQ).trans ayP).trans ayO).trans ayN)
 have aM5:=bS (sz:=1) (enc:=iQ) (T:=22) [.slice (some ⟨b92,0,none⟩) 2 2,.slice (some ⟨b93,0,none⟩) 2 2] (ars _ (.tail _ (.tail _ (.head _)))) (fun _ _=>rfl)
 have aQb:=bS (sz:=1) (enc:=cJ) (T:=3) [0,0] (ars _ (.head _)) (fun _ _=>rfl)
 have aQa:=bS (sz:=1) (enc:=cJ) (T:=3) [2,1] (ars _ (.tail _ (.head _))) (fun _ _=>rfl)
 refine jp (vs:=[v22,(.slice (some ⟨b94,0,none⟩) 2 2)]) [] [] (fun aA hs hZ=>(show dz _ _ _ _ (.bool (HN [[0,0],[2,1]] [[0,0],[2,1]])) from as6 (hsM.up hs) (aM5.up hs) (haM.imp fun _ _ h=>h.up hs) (.cons (aQb.up hs) (.cons (aQa.up hs) .nil)) (by decide) (by decide) (by decide) (by decide)))<|zD 3<|jn fun b99=>jp (vs:=[v41,.slice (some ⟨b99,0,none⟩) 1 1]) [1,0] (Y41++[(b99,.cells ⟨([0].map cJ).flatten⟩ 3 (0,0))]) (fun aA hs hZ=>(show dz _ _ _ _ (.bool (Yb [0] [0])) from amV (aN1.ma hZ.left) (bS [0] hZ.right.head (by intro p hp;rfl)) (by decide) (by decide))) ?_
 refine zD 4<|UZ qC.a.a.a.a.a.a.a.a (.bool true) [3] [] (((((((bV.trans kD).trans ry).trans ayS).trans ayQ).trans ayP).trans ayO).trans ayN) ⟨rfl,rfl⟩
theorem ajg{x:av}{ro:Nat→Option Obj}:dz zT 54 [.agg ⟨[zI x.past,zI x.w0,zI x.w1,zI x.w2,zI x.w3,zI x.gone,zI x.new,zI x.af]⟩] ro (zI x.gone):=by
 refine bA au [] [] bn<|zD 2<|jn fun b1=>jd 9 [0]<|aE q0 (zI x.gone) [] [] [] (Sub.refl _) ⟨_,_,rfl,rfl,rfl,rfl⟩
theorem ab3{rows:List bK}{ro:Nat→Option Obj}(hK:gh ro l K)(hV:fH K)(hR:rows.length≤2)(hB:iK ro l K rows):B4 zT 52 [.agg ⟨l⟩,.func (.func 54) ⟨[]⟩ ⟨[]⟩] ro [] (fun r Y=>∃zs a b e,zs.Perm (eW K (dg K) (di K.gone K.new K.af) rows)∧Y=[]∧r= .tuple ⟨[.agg ⟨[zI a,zI b]⟩,zI e]⟩∧((zs=[]∧a=0∧b=0∧e=9)∨(zs≠[]∧a=iD (zs.map fun x=>x.gone)∧b=jE (zs.map fun x=>x.gone)∧e=0))):=by
 obtain⟨v0,v1,v3,v4,v5,v6,v7,vb,fa,fc,hv,rfl,_⟩:=id hK
 refine zo au [] [] bn fun fr=>zD 2<|jn fun b2=>jn fun b4=>jd 5 [1]<|acj (vs:=[.agg ⟨[v0,v1,.slice fa 0 fc,v3,v4,v5,v6,v7,zI K.gone,zI K.new,zI K.af,vb]⟩]) [] (fun _ _ h=>h) (N0 hK hV hR hB) ?_
 rintro _ aA Y14 bV ⟨f14,zs,v14,Ak,rfl,HL,hz,FQ,he⟩
 have XA:∀x∈zs,(-4≤x.gone∧x.gone≤4)∧(-4≤x.new∧x.new≤4)∧(0≤x.af∧x.af≤4):=fun x hx=>by obtain⟨i,r,p,_,_,rfl,_⟩:=kS (hz.mem_iff.1 hx);exact lG hV r i p
 have Xs:zs.length≤1250:=by rw[hz.length_eq];exact qj hV _ _ hR
 refine zD 7<|jf [0] Y14 (fun ro4 oB P5=>?_)
 have hZ1:=FQ.ma P5
 obtain⟨u1,Q9,Q7,ri,rfl,Q8,ET,ES⟩:=hZ1
 refine zD 7<|js 19 (!decide (Ak=0)) (fun h5=>?_) (fun h5=>?_)
 ·
  replace h5:=of_decide_eq_false (by simpa using h5)
  have qn:zs=[]∧Ak=9:=by rcases he with h| ⟨_,h⟩;exact h;omega
  refine jd 9 [0]<|Kw qC.a.a (.tuple ⟨[.agg ⟨[zI 0,zI 0]⟩,zI Ak]⟩) [0] [2] [] (bV.trans oB) ⟨zs,_,_,_,hz,rfl,rfl,.inl ⟨qn.1,rfl,rfl,qn.2⟩⟩
 replace h5:=of_decide_eq_true (by simpa using h5)
 have qn:zs≠[]∧Ak=0:=by rcases he with ⟨_,h⟩|h;omega;exact h
 have hzp:0 <zs.length:=List.length_pos_iff.2 qn.1
 refine zD 14<|pQ<|ez [1,1,1,1,0,1,0,0] [] (fun(zz:Nat×Value×Cells)=>[(1,.func (.func 54) ⟨[]⟩ ⟨[]⟩),(4,zP b4),(5,zI 0),(9,zz.2.1),(22,.slice u1 zs.length ri),(23,zI (zs.length:Int)),(24,zI (zz.1:Int))]) (fun(zz:Nat×Value×Cells)=>[.l zz.2.2,.b b4 (.cells ⟨[zI 0,zI 0]⟩ 64 (0,0)),.b b2 (.cells ⟨[v0,v1,.slice fa 0 fc,v3,v4,v5,v6,v7,zI K.gone,zI K.new,zI K.af,vb]⟩ 38 (0,0)),.l fr]) (fun(zz:Nat×Value×Cells)=>zz.1≤zs.length∧az zz.2.1 1 3 cJ ((zs.take zz.1).map fun x=>x.gone) zz.2.2) (fun(zz:Nat×Value×Cells)=>zs.length-zz.1) (⟨0,zS,[]⟩) ⟨by dsimp only;omega,az.nil _ _ _⟩ [0,1,2,3] ?_
 rintro⟨k,vS,LS⟩ hI K1 bM rest
 dsimp only at hI
 refine zD 5<|zJ 25 ((k:Int) <(zs.length:Int)) (fun h6=>?_) fun h6=>?_
 ·
  refine zD 6 ?_
  obtain⟨qZ,zq⟩:=zG zs k
  refine ij ri 8 ET zq<|jl 0 (ES _ _ zq)<|jn fun Mq=>jd 6 [0,0]<|jp (vs:=[.agg ⟨[zI qZ.past,zI qZ.w0,zI qZ.w1,zI qZ.w2,zI qZ.w3,zI qZ.gone,zI qZ.new,zI qZ.af]⟩]) [] [] (fun aA hs hZ=>(ajg (x:=qZ)))<|jn fun b32=>ku (sz:=1) (ps:=((zs.take k).map fun x=>x.gone)) (qs:=[qZ.gone]) (enc:=cJ) (w:= .slice (some ⟨b32,0,none⟩) 1 1) [2] [0] [(b32,.cells ⟨([qZ.gone].map cJ).flatten⟩ 3 (0,0))] (hI.2) (fun s _ hZ=>bX [qZ.gone] (hZ _ (.head _)) (by intro p hp;rfl)) (fun p _=>an rfl) (by simp only[List.length_map,List.length_take,List.length_cons,List.length_nil];omega) (fun v33 L33 vu=>?_)
  obtain⟨ZE,Zx,adK⟩:=vu.form
  subst adK
  refine zD 3<|ja ((k:Int)+1) (by omega)<|zD 2<|bO bM (⟨k+1,(.slice ZE ((((zs.take k).map fun x=>x.gone)++[qZ.gone])).length Zx),L33⟩) ⟨by dsimp only;omega,by rw[gA zq,List.map_append];exact vu⟩ (by dsimp only;omega) [0,3,4,5] (Sub.refl _)
 refine zD 5<|jp (vs:=[vS]) [0] LS (fun aA hs hZ=>UW (hI.2.ma hZ) ⟨by simp only[List.length_map,List.length_take];omega,by simp only[List.length_map,List.length_take];omega⟩) ?_
 refine jd 4 [1]<|Kw qC.a.a (.tuple ⟨[.agg ⟨[zI (iD ((zs.take k).map fun x=>x.gone)),zI (jE ((zs.take k).map fun x=>x.gone))]⟩,zI 0]⟩) [1] [3] [] (bV.trans oB) ⟨zs,_,_,_,hz,rfl,rfl,.inr ⟨qn.1,by rw[show k=zs.length by omega,List.take_length],by rw[show k=zs.length by omega,List.take_length],rfl⟩⟩
theorem apZ{rows:List bK}{ro:Nat→Option Obj}(hK:gh ro l K)(hV:fH K)(hR:rows.length≤2)(hB:iK ro l K rows):B4 zT 23 [.agg ⟨l⟩] ro [] (fun r Y=>∃zs a b e,zs.Perm (eW K (dg K) (di K.gone K.new K.af) rows)∧Y=[]∧r= .tuple ⟨[.agg ⟨[zI a,zI b]⟩,zI e]⟩∧((zs=[]∧a=0∧b=0∧e=9)∨(zs≠[]∧a=iD (zs.map fun x=>x.gone)∧b=jE (zs.map fun x=>x.gone)∧e=0))):=by
 obtain⟨v0,v1,v3,v4,v5,v6,v7,vb,fa,fc,hv,rfl,_⟩:=id hK
 refine zo au [] [] bn fun fr=>zD 2<|jn fun b1=>jn fun b2=>jd 5 [1]<|Kx (vs:=[.agg ⟨[v0,v1,.slice fa 0 fc,v3,v4,v5,v6,v7,zI K.gone,zI K.new,zI K.af,vb]⟩,.func (.func 54) ⟨[]⟩ ⟨[]⟩]) [] (fun _ _ h=>h) (ab3 hK hV hR hB) ?_
 rintro _ _ ⟨zs,a5,c5,e5,hz,rfl,rfl,he⟩
 refine jg 0 []<|jd 6 [0]<|Kw qC (.tuple ⟨[.agg ⟨[zI a5,zI c5]⟩,zI e5]⟩) [0] [2] [] (Sub.refl _) ⟨zs,_,_,_,hz,rfl,rfl,he⟩
theorem apP{x:av}{ro:Nat→Option Obj}:dz zT 55 [.agg ⟨[zI x.past,zI x.w0,zI x.w1,zI x.w2,zI x.w3,zI x.gone,zI x.new,zI x.af]⟩] ro (zI x.new):=by
 refine bA au [] [] bn<|zD 2<|jn fun b1=>jd 9 [0]<|aE q0 (zI x.new) [] [] [] (Sub.refl _) ⟨_,_,rfl,rfl,rfl,rfl⟩
theorem ai3{rows:List bK}{ro:Nat→Option Obj}(hK:gh ro l K)(hV:fH K)(hR:rows.length≤2)(hB:iK ro l K rows):B4 zT 52 [.agg ⟨l⟩,.func (.func 55) ⟨[]⟩ ⟨[]⟩] ro [] (fun r Y=>∃zs a b e,zs.Perm (eW K (dg K) (di K.gone K.new K.af) rows)∧Y=[]∧r= .tuple ⟨[.agg ⟨[zI a,zI b]⟩,zI e]⟩∧((zs=[]∧a=0∧b=0∧e=9)∨(zs≠[]∧a=iD (zs.map fun x=>x.new)∧b=jE (zs.map fun x=>x.new)∧e=0))):=by
 obtain⟨v0,v1,v3,v4,v5,v6,v7,vb,fa,fc,hv,rfl,_⟩:=id hK
 refine zo au [] [] bn fun fr=>zD 2<|jn fun b2=>jn fun b4=>jd 5 [1]<|acj (vs:=[.agg ⟨[v0,v1,.slice fa 0 fc,v3,v4,v5,v6,v7,zI K.gone,zI K.new,zI K.af,vb]⟩]) [] (fun _ _ h=>h) (N0 hK hV hR hB) ?_
 rintro _ aA Y14 bV ⟨f14,zs,v14,Ak,rfl,HL,hz,FQ,he⟩
 have XA:∀x∈zs,(-4≤x.gone∧x.gone≤4)∧(-4≤x.new∧x.new≤4)∧(0≤x.af∧x.af≤4):=fun x hx=>by obtain⟨i,r,p,_,_,rfl,_⟩:=kS (hz.mem_iff.1 hx);exact lG hV r i p
 have Xs:zs.length≤1250:=by rw[hz.length_eq];exact qj hV _ _ hR
 refine zD 7<|jf [0] Y14 (fun ro4 oB P5=>?_)
 have hZ1:=FQ.ma P5
 obtain⟨u1,Q9,Q7,ri,rfl,Q8,ET,ES⟩:=hZ1
 refine zD 7<|js 19 (!decide (Ak=0)) (fun h5=>?_) (fun h5=>?_)
 ·
  replace h5:=of_decide_eq_false (by simpa using h5)
  have qn:zs=[]∧Ak=9:=by rcases he with h| ⟨_,h⟩;exact h;omega
  refine jd 9 [0]<|Kw qC.a.a (.tuple ⟨[.agg ⟨[zI 0,zI 0]⟩,zI Ak]⟩) [0] [2] [] (bV.trans oB) ⟨zs,_,_,_,hz,rfl,rfl,.inl ⟨qn.1,rfl,rfl,qn.2⟩⟩
 replace h5:=of_decide_eq_true (by simpa using h5)
 have qn:zs≠[]∧Ak=0:=by rcases he with ⟨_,h⟩|h;omega;exact h
 have hzp:0 <zs.length:=List.length_pos_iff.2 qn.1
 refine zD 14<|pQ<|ez [1,1,1,1,0,1,0,0] [] (fun(zz:Nat×Value×Cells)=>[(1,.func (.func 55) ⟨[]⟩ ⟨[]⟩),(4,zP b4),(5,zI 0),(9,zz.2.1),(22,.slice u1 zs.length ri),(23,zI (zs.length:Int)),(24,zI (zz.1:Int))]) (fun(zz:Nat×Value×Cells)=>[.l zz.2.2,.b b4 (.cells ⟨[zI 0,zI 0]⟩ 64 (0,0)),.b b2 (.cells ⟨[v0,v1,.slice fa 0 fc,v3,v4,v5,v6,v7,zI K.gone,zI K.new,zI K.af,vb]⟩ 38 (0,0)),.l fr]) (fun(zz:Nat×Value×Cells)=>zz.1≤zs.length∧az zz.2.1 1 3 cJ ((zs.take zz.1).map fun x=>x.new) zz.2.2) (fun(zz:Nat×Value×Cells)=>zs.length-zz.1) (⟨0,zS,[]⟩) ⟨by dsimp only;omega,az.nil _ _ _⟩ [0,1,2,3] ?_
 rintro⟨k,vS,LS⟩ hI K1 bM rest
 dsimp only at hI
 refine zD 5<|zJ 25 ((k:Int) <(zs.length:Int)) (fun h6=>?_) fun h6=>?_
 ·
  refine zD 6 ?_
  obtain⟨qZ,zq⟩:=zG zs k
  refine ij ri 8 ET zq<|jl 0 (ES _ _ zq)<|jn fun Mq=>jd 6 [0,0]<|jp (vs:=[.agg ⟨[zI qZ.past,zI qZ.w0,zI qZ.w1,zI qZ.w2,zI qZ.w3,zI qZ.gone,zI qZ.new,zI qZ.af]⟩]) [] [] (fun aA hs hZ=>(apP (x:=qZ)))<|jn fun b32=>ku (sz:=1) (ps:=((zs.take k).map fun x=>x.new)) (qs:=[qZ.new]) (enc:=cJ) (w:= .slice (some ⟨b32,0,none⟩) 1 1) [2] [0] [(b32,.cells ⟨([qZ.new].map cJ).flatten⟩ 3 (0,0))] (hI.2) (fun s _ hZ=>bX [qZ.new] (hZ _ (.head _)) (by intro p hp;rfl)) (fun p _=>an rfl) (by simp only[List.length_map,List.length_take,List.length_cons,List.length_nil];omega) (fun v33 L33 vu=>?_)
  obtain⟨ZE,Zx,adK⟩:=vu.form
  subst adK
  refine zD 3<|ja ((k:Int)+1) (by omega)<|zD 2<|bO bM (⟨k+1,(.slice ZE ((((zs.take k).map fun x=>x.new)++[qZ.new])).length Zx),L33⟩) ⟨by dsimp only;omega,by rw[gA zq,List.map_append];exact vu⟩ (by dsimp only;omega) [0,3,4,5] (Sub.refl _)
 refine zD 5<|jp (vs:=[vS]) [0] LS (fun aA hs hZ=>UW (hI.2.ma hZ) ⟨by simp only[List.length_map,List.length_take];omega,by simp only[List.length_map,List.length_take];omega⟩) ?_
 refine jd 4 [1]<|Kw qC.a.a (.tuple ⟨[.agg ⟨[zI (iD ((zs.take k).map fun x=>x.new)),zI (jE ((zs.take k).map fun x=>x.new))]⟩,zI 0]⟩) [1] [3] [] (bV.trans oB) ⟨zs,_,_,_,hz,rfl,rfl,.inr ⟨qn.1,by rw[show k=zs.length by omega,List.take_length],by rw[show k=zs.length by omega,List.take_length],rfl⟩⟩
theorem aya{rows:List bK}{ro:Nat→Option Obj}(hK:gh ro l K)(hV:fH K)(hR:rows.length≤2)(hB:iK ro l K rows):B4 zT 24 [.agg ⟨l⟩] ro [] (fun r Y=>∃zs a b e,zs.Perm (eW K (dg K) (di K.gone K.new K.af) rows)∧Y=[]∧r= .tuple ⟨[.agg ⟨[zI a,zI b]⟩,zI e]⟩∧((zs=[]∧a=0∧b=0∧e=9)∨(zs≠[]∧a=iD (zs.map fun x=>x.new)∧b=jE (zs.map fun x=>x.new)∧e=0))):=by
 obtain⟨v0,v1,v3,v4,v5,v6,v7,vb,fa,fc,hv,rfl,_⟩:=id hK
 refine zo au [] [] bn fun fr=>zD 2<|jn fun b1=>jn fun b2=>jd 5 [1]<|Kx (vs:=[.agg ⟨[v0,v1,.slice fa 0 fc,v3,v4,v5,v6,v7,zI K.gone,zI K.new,zI K.af,vb]⟩,.func (.func 55) ⟨[]⟩ ⟨[]⟩]) [] (fun _ _ h=>h) (ai3 hK hV hR hB) ?_
 rintro _ _ ⟨zs,a5,c5,e5,hz,rfl,rfl,he⟩
 refine jg 0 []<|jd 6 [0]<|Kw qC (.tuple ⟨[.agg ⟨[zI a5,zI c5]⟩,zI e5]⟩) [0] [2] [] (Sub.refl _) ⟨zs,_,_,_,hz,rfl,rfl,he⟩
theorem Rm{l:List av}{f g:av→Int}{c:Int}(h:∀x∈l,f x=g x+c)(hl:l≠[]):iD (l.map f)=iD (l.map g)+c∧jE (l.map f)=jE (l.map g)+c:=by
 obtain⟨x,hx,e1⟩:=List.mem_map.1 (pK (gi (f:=f) hl))
 obtain⟨y,hy,e2⟩:=List.mem_map.1 (pK (gi (f:=g) hl))
 obtain⟨x',kJ,e3⟩:=List.mem_map.1 (nS (gi (f:=f) hl))
 obtain⟨y',PW,e4⟩:=List.mem_map.1 (nS (gi (f:=g) hl))
 have h1:=tF (List.mem_map_of_mem (f:=g) hx)
 have h2:=tF (List.mem_map_of_mem (f:=f) hy)
 have h3:=DW (List.mem_map_of_mem (f:=g) kJ)
 have h4:=DW (List.mem_map_of_mem (f:=f) PW)
 have:=h x hx;have:=h y hy;have:=h x' kJ;have:=h y' PW
 omega
theorem abq(r:bK)(p:Nat→Int):pJ r p 4≤sa (pL p):=by
 have key:∀k,pJ r p (k+1)≤pJ r p k+(if p k>0 then 1 else 0):=fun k=>by
  simp only[pJ]
  by_cases h:p k>0
  ·cases r.c k (p k-1).toNat<;>simp[h]<;>omega
  simp[h]
 have e:sa (pL p)=(if p 0>0 then 1 else 0)+(if p 1>0 then 1 else 0)+(if p 2>0 then 1 else 0)+(if p 3>0 then 1 else 0):=by
  simp only[sa,pL,List.filter_cons,List.filter_nil,decide_eq_true_eq]
  split<;>split<;>split<;>split<;>simp
 have h0:pJ r p 1≤pJ r p 0+_:=key 0
 have h1:pJ r p 2≤pJ r p 1+_:=key 1
 have h2:pJ r p 3≤pJ r p 2+_:=key 2
 have h3:pJ r p 4≤pJ r p 3+_:=key 3
 have hz:pJ r p 0=0:=rfl
 rw[e]
 omega
theorem Pm{rows:List bK}{z1 z2 z3:List av}(hV:fH K)(h1:z1.Perm (eW K (dg K) (di K.gone K.new K.af) rows))(h2:z2.Perm (eW K (dg K) (di K.gone K.new K.af) rows))(h3:z3.Perm (eW K (dg K) (di K.gone K.new K.af) rows))(hn:z1≠[]):
 iD (z1.map fun x=>x.gone)-iD (z2.map fun x=>x.new)=(K.before.length:Int)-K.after.length∧jE (z1.map fun x=>x.gone)-jE (z2.map fun x=>x.new)=(K.before.length:Int)-K.after.length∧0≤iD (z3.map fun x=>x.af)∧iD (z3.map fun x=>x.af)≤jE (z3.map fun x=>x.af)∧
 jE (z3.map fun x=>x.af)≤K.before.length-iD (z1.map fun x=>x.gone)∧jE (z1.map fun x=>x.gone)≤K.gone∧jE (z2.map fun x=>x.new)≤K.new∧jE (z3.map fun x=>x.af)≤K.af∧
 (-4≤iD (z1.map fun x=>x.gone)∧jE (z1.map fun x=>x.gone)≤4)∧(-4≤iD (z2.map fun x=>x.new)∧jE (z2.map fun x=>x.new)≤4)∧(iD (z1.map fun x=>x.gone)≤jE (z1.map fun x=>x.gone))∧(iD (z2.map fun x=>x.new)≤jE (z2.map fun x=>x.new)):=by
 have ne:∀ {z:List av},z.Perm (eW K (dg K) (di K.gone K.new K.af) rows)→z≠[]:=fun h e=>hn (by subst e;exact(h1.trans h.symm).eq_nil)
 have fact:∀x∈z1,x.gone=x.new+((K.before.length:Int)-K.after.length)∧x.af≤K.before.length-x.gone∧0≤x.af∧(x.gone≤K.gone∧x.new≤K.new∧x.af≤K.af)∧(-4≤x.gone∧x.gone≤4)∧(-4≤x.new∧x.new≤4):=fun x hx=>by
  obtain⟨i,r,q,_,_,rfl,hk⟩:=kS (h1.mem_iff.1 hx)
  have a1:=lG hV r i q
  have a2:=abq r q
  simp only[di,Bool.and_eq_true,decide_eq_true_eq] at hk
  refine⟨?_,?_,a1.2.2.1,by omega,a1.1,a1.2.1⟩
  ·simp only[dv];omega
  simp only[dv];omega
 rw[wF ((h2.trans h1.symm).map _) (gi (ne h2)),Bp ((h2.trans h1.symm).map _) (gi (ne h2)),wF ((h3.trans h1.symm).map _) (gi (ne h3)),Bp ((h3.trans h1.symm).map _) (gi (ne h3))]
 have s:=Rm (f:=fun x=>x.gone) (g:=fun x=>x.new) (fun x hx=>(fact x hx).1) hn
 have mm:∀f:av→Int,iD (z1.map f)≤jE (z1.map f):=fun f=>tF (nS (gi hn))
 have m1:=mm fun x=>x.gone;have m2:=mm fun x=>x.new;have m3:=mm fun x=>x.af
 obtain⟨xa,hxa,ea⟩:=List.mem_map.1 (pK (gi (f:=fun x:av=>x.gone) hn))
 obtain⟨xb,YR,eb⟩:=List.mem_map.1 (nS (gi (f:=fun x:av=>x.gone) hn))
 obtain⟨xc,hxc,ec⟩:=List.mem_map.1 (pK (gi (f:=fun x:av=>x.new) hn))
 obtain⟨xd,hxd,ed⟩:=List.mem_map.1 (nS (gi (f:=fun x:av=>x.new) hn))
 obtain⟨xe,hxe,ee⟩:=List.mem_map.1 (pK (gi (f:=fun x:av=>x.af) hn))
 obtain⟨xf,hxf,ef⟩:=List.mem_map.1 (nS (gi (f:=fun x:av=>x.af) hn))
 have fa:=fact xa hxa;have fb:=fact xb YR;have fc:=fact xc hxc;have fd:=fact xd hxd;have fe:=fact xe hxe;have ff:=fact xf hxf
 have g1:=tF (List.mem_map_of_mem (f:=fun x:av=>x.gone) hxf)
 omega
theorem abP{ro:Nat→Option Obj}(hN:Dn ro vd xs):ani zT 6 [vd] ro (fun r Y=>r= .bool true∧Y=[]):=by
 have hN0:=hN
 obtain⟨hl,hxn⟩:=hN
 obtain⟨fp,rh,q9,eJ,rfl,tq,k8,me⟩:=hl
 refine ayh au (by kernel_rfl) [] bn fun fr=>zD 7<|jc (vs:=[.slice fp xs.length eJ]) [] (aR3 hN0.1) ?_
 rintro _ X16 ⟨d16,rfl,aen⟩
 refine jcG (vs:=[zP d16,zI 4,zI 2]) [0] (aR4 hN0 aen (by decide) (by decide)) ?_
 rintro _ aA X18 bV ⟨K,l,rfl,hO,uA,hK,ON⟩
 obtain⟨v0,v1,v3,v4,v5,v6,v7,vb,va,vc,hv,rfl,_,_,_,_,_,hb,ha,_⟩:=id hK
 obtain⟨pF,WV,WT,oZ,rfl,WU,Uj,Ui⟩:=hb
 obtain⟨pd,Um,Uk,oN,rfl,Ul,Q6,Q5⟩:=ha
 have hC:=hO.c
 have hV:=hO.v
 have aq7:=hO.Bt
 refine jn fun b3=>jsx 0 b3 0 [zS,zS,zS,zS,zS,zS,zS,zS,zI 0,zI 0,zI 0,zS] [v0,v1,.slice va 0 vc,v3,v4,v5,.slice pF K.before.length oZ,.slice pd K.after.length oN,zI K.gone,zI K.new,zI K.af,vb] 38 hK.L.all rfl<|jd 4 [0]<|Kx (vs:=[.agg ⟨[v0,v1,.slice va 0 vc,v3,v4,v5,.slice pF K.before.length oZ,.slice pd K.after.length oN,zI K.gone,zI K.new,zI K.af,vb]⟩]) [] (fun _ _ h=>h) (apZ hK hV (mb hC) (tT hK hC hV)) ?_
 rintro _ _ ⟨z1,ga1,gb1,ge1,Xt,rfl,rfl,qn⟩
 refine jg 0 []<|zD 3<|jn fun b4=>jd 6 [0,1]<|Kx (vs:=[.agg ⟨[v0,v1,.slice va 0 vc,v3,v4,v5,.slice pF K.before.length oZ,.slice pd K.after.length oN,zI K.gone,zI K.new,zI K.af,vb]⟩]) [] (fun _ _ h=>h) (aya hK hV (mb hC) (tT hK hC hV)) ?_
 rintro _ _ ⟨z2,ga2,gb2,ge2,hz2,rfl,rfl,Dk⟩
 refine jg 0 []<|zD 3<|jn fun b6=>jd 6 [0,2]<|Kx (vs:=[.agg ⟨[v0,v1,.slice va 0 vc,v3,v4,v5,.slice pF K.before.length oZ,.slice pd K.after.length oN,zI K.gone,zI K.new,zI K.af,vb]⟩]) [] (fun _ _ h=>h) (ab9 hK hV (mb hC) (tT hK hC hV)) ?_
 rintro _ _ ⟨z3,ga3,gb3,ge3,hz3,rfl,rfl,Se⟩
 refine jg 0 []<|zD 3<|jn fun b8=>jd 5 [0] ?_
 have n12:=(Xt.trans hz2.symm).length_eq
 have n13:=(Xt.trans hz3.symm).length_eq
 have q1:(z1.length=0∧ge1=9)∨(0 <z1.length∧ge1=0):=by rcases qn with ⟨h,_,_,e⟩| ⟨h,_,_,e⟩;exact .inl ⟨by rw[h];rfl,e⟩;exact .inr ⟨List.length_pos_iff.2 h,e⟩
 have q2:(z2.length=0∧ge2=9)∨(0 <z2.length∧ge2=0):=by rcases Dk with ⟨h,_,_,e⟩| ⟨h,_,_,e⟩;exact .inl ⟨by rw[h];rfl,e⟩;exact .inr ⟨List.length_pos_iff.2 h,e⟩
 have q3:(z3.length=0∧ge3=9)∨(0 <z3.length∧ge3=0):=by rcases Se with ⟨h,_,_,e⟩| ⟨h,_,_,e⟩;exact .inl ⟨by rw[h];rfl,e⟩;exact .inr ⟨List.length_pos_iff.2 h,e⟩
 have hee:ge2=ge1∧ge3=ge1∧(ge1=0∨ge1=9):=by omega
 refine zD 5<|js 32 (!decide (ge1=ge2)) (fun h2=>?_) (fun h2=>?_)
 ·
  have kF:=h2
  replace kF:=of_decide_eq_false (by simpa using kF)
  exfalso;omega
 have kF:=h2
 replace kF:=of_decide_eq_true (by simpa using kF)
 refine zD 5<|js 37 (!decide (ge2=ge3)) (fun h3=>?_) (fun h3=>?_)
 ·
  have sC:=h3
  replace sC:=of_decide_eq_false (by simpa using sC)
  exfalso;omega
 have sC:=h3
 replace sC:=of_decide_eq_true (by simpa using sC)
 refine zD 4<|js 40 (!decide (ge1=0)) (fun h4=>?_) (fun h4=>?_)
 ·
  replace h4:=of_decide_eq_false (by simpa using h4)
  refine zD 7<|js 44 (decide (ge1=ge2)) (fun h5=>?_) (fun h5=>?_)
  ·
   have Dq:=h5
   replace Dq:=of_decide_eq_true Dq
   refine zD 5<|js 49 (decide (ge2=ge3)) (fun h6=>?_) (fun h6=>?_)
   ·
    have OQ:=h6
    replace OQ:=of_decide_eq_true OQ
    refine zD 4<|js 53 (decide (ge1=9)) (fun h7=>?_) (fun h7=>?_)
    ·
     have h7g:=h7
     replace h7g:=of_decide_eq_true h7g
     refine Kx [] (fun _ _ h=>h) (Uc) ?_
     rintro _ _ ⟨rfl,rfl⟩
     refine jg 0 []<|zD 4<|UZ qC.a (.bool true) [5] [] bV ⟨rfl,rfl⟩
    have h7g:=h7
    replace h7g:=of_decide_eq_false h7g
    exfalso;omega
   have OQ:=h6
   replace OQ:=of_decide_eq_false OQ
   exfalso;omega
  have Dq:=h5
  replace Dq:=of_decide_eq_false Dq
  exfalso;omega
 replace h4:=of_decide_eq_true (by simpa using h4)
 refine zD 3 ?_
 obtain⟨y1,y2,y3,ye1⟩:z1≠[]∧ga1=iD (z1.map fun x=>x.gone)∧gb1=jE (z1.map fun x=>x.gone)∧ge1=0:=by rcases qn with ⟨_,_,_,h⟩|h;omega;exact h
 obtain⟨_,y5,y6,ye2⟩:z2≠[]∧ga2=iD (z2.map fun x=>x.new)∧gb2=jE (z2.map fun x=>x.new)∧ge2=0:=by rcases Dk with ⟨_,_,_,h⟩|h;omega;exact h
 obtain⟨_,y8,y9,ye3⟩:z3≠[]∧ga3=iD (z3.map fun x=>x.af)∧gb3=jE (z3.map fun x=>x.af)∧ge3=0:=by rcases Se with ⟨_,_,_,h⟩|h;omega;exact h
 have aOs:=Pm hV Xt hz2 hz3 y1
 rw[←y2,←y3,←y5,←y6,←y8,←y9] at aOs
 have Vr:=hV.before.1
 have I5:=hV.after.1
 refine jd 7 [3,3]<|ja ((K.before.length:Int)-(K.after.length:Int)) (by omega)<|jd 8 [2,1]<|ja (ga1-ga2) (by omega)<|zD 3<|js 70 (decide ((ga1-ga2)=((K.before.length:Int)-(K.after.length:Int)))) (fun h8=>?_) (fun h8=>?_)
 ·
  have h8g:=h8
  replace h8g:=of_decide_eq_true h8g
  refine jd 4 [2,1]<|ja (gb1-gb2) (by omega)<|zD 4<|js 79 (decide ((gb1-gb2)=((K.before.length:Int)-(K.after.length:Int)))) (fun h9=>?_) (fun h9=>?_)
  ·
   have h9g:=h9
   replace h9g:=of_decide_eq_true h9g
   refine jd 5 [0]<|js 84 (decide (ga3≥0)) (fun Qb=>?_) (fun Qb=>?_)
   ·
    have aeK:=Qb
    replace aeK:=of_decide_eq_true aeK
    refine jd 7 [0,0]<|js 91 (decide (ga3≤gb3)) (fun OT=>?_) (fun OT=>?_)
    ·
     have aeJ:=OT
     replace aeJ:=of_decide_eq_true aeJ
     refine jd 7 [0,3,2]<|ja ((K.before.length:Int)-ga1) (by omega)<|zD 3<|js 102 (decide (gb3≤((K.before.length:Int)-ga1))) (fun Cu=>?_) (fun Cu=>?_)
     ·
      have Gd:=Cu
      replace Gd:=of_decide_eq_true Gd
      refine jd 7 [2,3]<|js 109 (decide (gb1≤K.gone)) (fun xD=>?_) (fun xD=>?_)
      ·
       have Gc:=xD
       replace Gc:=of_decide_eq_true Gc
       refine jd 7 [1,3]<|js 116 (decide (gb2≤K.new)) (fun OS=>?_) (fun OS=>?_)
       ·
        have Gb:=OS
        replace Gb:=of_decide_eq_true Gb
        refine jd 7 [0,3]<|js 123 (decide (gb3≤K.af)) (fun Ga=>?_) (fun Ga=>?_)
        ·
         have vw:=Ga
         replace vw:=of_decide_eq_true vw
         refine Kx [] (fun _ _ h=>h) (Uc) ?_
         rintro _ _ ⟨rfl,rfl⟩
         refine jg 0 []<|zD 4<|UZ qC.a (.bool true) [5] [] bV ⟨rfl,rfl⟩
        have vw:=Ga
        replace vw:=of_decide_eq_false vw
        exfalso;omega
       have Gb:=OS
       replace Gb:=of_decide_eq_false Gb
       exfalso;omega
      have Gc:=xD
      replace Gc:=of_decide_eq_false Gc
      exfalso;omega
     have Gd:=Cu
     replace Gd:=of_decide_eq_false Gd
     exfalso;omega
    have aeJ:=OT
    replace aeJ:=of_decide_eq_false aeJ
    exfalso;omega
   have aeK:=Qb
   replace aeK:=of_decide_eq_false aeK
   exfalso;omega
  have h9g:=h9
  replace h9g:=of_decide_eq_false h9g
  exfalso;omega
 have h8g:=h8
 replace h8g:=of_decide_eq_false h8g
 exfalso;omega
theorem Fq(W:World)(hN:Dn (fun b=>W.heap[b]?) vd xs) {Post:Value→World→Prop}
 (OJ:∀w:World,(∀(b:Nat) (o:Obj),W.heap[b]?=some o→w.heap[b]?=some o)→w.os=W.os→w.output=W.output→Post (.bool true) w):
 ∃N last o w' t',runNT zT (N+1) (solo (G (Frame.enter zT 6 ⟨[vd]⟩ .normal) []) W) #[]=(.ended o w',t')∧runN zT N (solo (G (Frame.enter zT 6 ⟨[vd]⟩ .normal) []) W)= .next last∧step zT last= .ended o w'∧Good zT Post last o w' t':=by
 have ha:aP ⟨fun b=>W.heap[b]?,[]⟩ W:=⟨fun _ _ h=>h,(fun _ _ h=>(by cases h)),by simp,(fun _ _ h=>(by cases h))⟩
 exact ZY ha (abP hN _ _ _ fun v Y w pR oQ sU Di=>by
  obtain⟨rfl,rfl⟩:=pR
  exact OJ w (fun b o hb=>oQ.ro b o hb) sU Di)
end Go.L
