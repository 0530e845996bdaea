/- Part 11 of the proof. -/
import Derived.Test.YtfamogolneloaaaGreatDoorS10
set_option maxRecDepth 100000
set_option linter.all false
namespace Go.L
open Go Go.Conc Go.Proofs
variable {l:List Value} {T R:Nat→Nat→Int} {K:aE} {i j ck p1 p2 fc:Nat} {n:Int} {seen:List Nat} {q:Nat→Int} {x:aj} {xs:List Int} {α:Type} {vd v0 v1 v3 v5 v6 v7 vb:Value}
def I7:Value→Int
 | .int _ n=>n
 |_=>0
def Tp(f:P4→Int)(F:List (P4×Value)):Int:=(F.map fun x=>f x.1*I7 x.2).sum
def pk(x:ai):P4:=(x.w0,x.w1,x.w2,x.w3)
def adf(f:P4→Int)(zs:List ai):Int:=(zs.map fun x=>f (pk x)).sum
structure CF(F:List (P4×Value))(zs:List ai):Prop where
 sum:∀f,Tp f F=adf f zs
 val:∀x∈F,∃n,x.2= zI n∧0≤n∧n≤zs.length
 key:∀x∈F,∃z∈zs,x.1=pk z
theorem CF.nil:CF [] []:=⟨fun _=>rfl,by simp,by simp⟩
theorem F6{κ:Type}(g:κ×Value→Int):∀ {F:List (κ×Value)} {i:Nat} {k:κ} {u v:Value},F[i]?=some (k,u)→((tV k v F i).map g).sum=(F.map g).sum-g (k,u)+g (k,v)
 | [],_,_,_,_,h=>by simp at h
 |x::F,0,k,u,v,h=>by simp at h;subst h;simp only[tV,List.map_cons,List.sum_cons];omega
 |x::F,i+1,k,u,v,h=>by
  simp at h
  have:=F6 g (v:=v) h
  simp only[tV,List.map_cons,List.sum_cons];omega
theorem wx{κ:Type}:∀ {F:List (κ×Value)} {i:Nat} {k:κ} {v:Value} {x:κ×Value},x∈tV k v F i→x=(k,v)∨x∈F
 | [],_,_,_,_,h=>by cases h
 |y::F,0,k,v,x,h=>by
  rcases List.mem_cons.1 h with h|h
  ·exact .inl h
  exact .inr (List.mem_cons_of_mem _ h)
 |y::F,i+1,k,v,x,h=>by
  rcases List.mem_cons.1 h with h|h
  ·exact .inr (by rw[h];exact List.mem_cons_self)
  exact(wx h).imp id (List.mem_cons_of_mem _)
theorem CF.look{F:List (P4×Value)}{zs:List ai}(h:CF F zs)(k:P4):∃n,Qx (zI 0) false k F= zI n∧0≤n∧n≤zs.length:=by
 simp only[Qx,lkM]
 cases hf:sJ k F 0 with
 |none=>exact⟨0,rfl,by omega,by omega⟩
 |some u=>
  obtain⟨j,u⟩:=u
  have:=(qU hf).2
  exact h.val _ (List.mem_of_getElem? this)
theorem CF.upd{F F1:List (P4×Value)}{zs:List ai}{x:ai}(h:CF F zs)(h1:((∃u,sJ (pk x) F 0=some u)∧F1=F)∨(sJ (pk x) F 0=none∧F1=F++[(pk x,zI 0)]))(hl:Qx (zI 0) false (pk x) F= zI n)(hn:0≤n∧n≤zs.length):CF (mD (pk x) (zI (n+1)) F1) (zs++[x]):=by
 have hz (f:P4→Int):adf f (zs++[x])=adf f zs+f (pk x):=by simp[adf]
 rcases h1 with ⟨⟨⟨j,u⟩,hf⟩,rfl⟩| ⟨hf,rfl⟩
 ·have hu:=qU hf
  simp only[Nat.sub_zero] at hu
  have rj:u= zI n:=by simpa [Qx,lkM,hf] using hl
  subst rj
  simp only[mD,hf]
  refine⟨fun f=>?_,fun y hy=>?_,fun y hy=>?_⟩
  ·rw[hz,←h.sum,Tp,F6 _ hu.2,Tp]
   simp only[I7,Int.mul_add,Int.mul_one];omega
  ·rcases wx hy with rfl|hy
   ·exact⟨n+1,rfl,by omega,by simp;omega⟩
   obtain⟨m,h1,h2⟩:=h.val _ hy
   exact⟨m,h1,by omega,by simp;omega⟩
  rcases wx hy with rfl|hy
  ·exact⟨x,by simp,rfl⟩
  obtain⟨z,h1,h2⟩:=h.key _ hy
  exact⟨z,by simp[h1],h2⟩
 have rj:n=0:=by
  have:(Value.int .i64 0)= zI n:=by simpa [Qx,lkM,hf] using hl
  cases this;rfl
 subst rj
 have hs:mD (pk x) (zI (0+1)) (F++[(pk x,zI 0)])=tV (pk x) (zI (0+1)) (F++[(pk x,zI 0)]) (0+F.length):=by
  simp only[mD,Br (v:= zI 0) hf]
 have hg:(F++[(pk x,Value.int .i64 0)])[0+F.length]?=some (pk x,zI 0):=by simp
 rw[hs]
 refine⟨fun f=>?_,fun y hy=>?_,fun y hy=>?_⟩
 ·rw[hz,←h.sum,Tp,F6 _ hg,Tp]
  simp[I7]
 ·rcases wx hy with rfl|hy
  ·exact⟨0+1,rfl,by omega,by simp;omega⟩
  rcases List.mem_append.1 hy with hy|hy
  ·obtain⟨m,h1,h2⟩:=h.val _ hy
   exact⟨m,h1,by omega,by simp;omega⟩
  rw[List.mem_singleton] at hy;subst hy
  exact⟨0,rfl,by omega,by omega⟩
 rcases wx hy with rfl|hy
 ·exact⟨x,by simp,rfl⟩
 rcases List.mem_append.1 hy with hy|hy
 ·obtain⟨z,h1,h2⟩:=h.key _ hy
  exact⟨z,by simp[h1],h2⟩
 rw[List.mem_singleton] at hy;subst hy
 exact⟨x,by simp,rfl⟩
def fV(i j:Nat):Value→Int
 | .agg ⟨l⟩=>(match l[i]? with
  |some (.int _ n)=>if n=(j:Int)+1 then 1 else 0
  |_=>0)
 |_=>0
def sW(i j:Nat)(l:List MapEntry):Int:=(l.map fun e=>fV i j e.key*I7 e.val).sum
theorem adg{F:List (P4×Value)}{es:Array MapEntry}(h:tK IG F es ck)(i j:Nat):sW i j es.toList=Tp (fun k=>fV i j (IG k)) F:=by
 have h1:=congrArg (List.map fun p:Value×Value=>fV i j p.1*I7 p.2) h.1
 simp only[List.map_map] at h1
 unfold sW Tp
 exact congrArg List.sum h1
theorem Pm(i j:Nat):∀ {l:List MapEntry} {e:MapEntry},(l.map (·.born)).Nodup→e∈l→sW i j l=fV i j e.key*I7 e.val+sW i j (l.filter fun x=> !decide (x.born=e.born))
 | [],_,_,h=>by cases h
 |x::l,e,hn,h=>by
  simp only[List.map_cons,List.nodup_cons] at hn
  rcases List.mem_cons.1 h with rfl|h
  ·have:l.filter (fun y=> !decide (y.born=e.born))=l:=by
    refine List.filter_eq_self.2 fun y hy=>?_
    have:y.born≠e.born:=fun h=>hn.1 (h▸List.mem_map_of_mem hy)
    simp[this]
   rw[List.filter_cons_of_neg (by simp),this];rfl
  have eg:x.born≠e.born:=fun k=>hn.1 (k▸List.mem_map_of_mem h)
  rw[List.filter_cons_of_pos (by simp[eg])]
  have:=Pm i j hn.2 h
  simp only[sW,List.map_cons,List.sum_cons] at this ⊢
  omega
theorem Ug(es:Array MapEntry)(seen:List Nat)(b:Nat):cM es (seen++[b])=(cM es seen).filter fun x=> !decide (x.born=b):=by
 simp only[cM,List.filter_filter]
 refine List.filter_congr fun x _=>?_
 simp only[List.contains_eq_mem,List.mem_append,List.mem_singleton,Bool.decide_or,Bool.not_or]
 rw[Bool.and_comm]
theorem J1{F:List (P4×Value)}{es:Array MapEntry}(h:tK IG F es ck){e:MapEntry}(he:e∈cM es seen)(i j:Nat):sW i j (cM es seen)=fV i j e.key*I7 e.val+sW i j (cM es (seen++[e.born])):=by
 rw[Ug]
 exact Pm i j ((List.filter_sublist.map _).nodup h.2.1) he
theorem aqN(i j:Nat)(v:Value):fV i j v=0∨fV i j v=1:=by
 unfold fV
 split<;>try exact .inl rfl
 split<;>try exact .inl rfl
 split<;>simp
theorem Pj{i j:Nat}:∀ {l:List MapEntry},(∀e∈l,0≤I7 e.val)→0≤sW i j l
 | [],_=>Int.le_refl _
 |x::l,h=>by
  have h1:=Pj (i:=i) (j:=j) (l:=l) fun e he=>h e (List.mem_cons_of_mem _ he)
  have h2:=h x List.mem_cons_self
  simp only[sW,List.map_cons,List.sum_cons] at h1 ⊢
  rcases aqN i j x.key with h3|h3<;>rw[h3]<;>omega
theorem ak9{F:List (P4×Value)}{zs:List ai}(h:CF F zs){es:Array MapEntry}(hE:tK IG F es ck):∀e∈cM es seen,0≤I7 e.val:=fun e he=>by
 have h1:e∈es.toList:=(List.mem_filter.1 he).1
 have h2:(e.key,e.val)∈es.toList.map (fun e=>(e.key,e.val)):=List.mem_map_of_mem (f:=fun e:MapEntry=>(e.key,e.val)) h1
 rw[hE.1] at h2
 obtain⟨y,h3,h4⟩:=List.mem_map.1 h2
 obtain⟨n,h5,h6,_⟩:=h.val _ h3
 simp only[Prod.mk.injEq] at h4
 rw[←h4.2,h5];exact h6
theorem Yw(x:ai)(j:Nat)(hi:i <4):fV i j (IG (pk x))=if pI x i=(j:Int)+1 then 1 else 0:=by
 rcases y8 hi with rfl|rfl|rfl|rfl<;>rfl
theorem WB(p:α→Prop)[DecidablePred p]:∀l:List α,(l.map fun x=>if p x then (1:Int) else 0).sum=((l.filter fun x=>decide (p x)).length:Int)
 | []=>rfl
 |x::l=>by
  rw[List.map_cons,List.sum_cons,WB p l]
  by_cases h:p x
  ·rw[if_pos h,List.filter_cons_of_pos (by simpa using h),List.length_cons];omega
  rw[if_neg h,List.filter_cons_of_neg (by simpa using h)];omega
theorem CF.total{F:List (P4×Value)}{zs:List ai}(h:CF F zs){es:Array MapEntry}(hE:tK IG F es ck)(j:Nat)(hi:i <4):sW i j (cM es [])=(ax zs).c i j:=by
 rw[CX,adg hE,h.sum,adf]
 simp only[Yw _ j hi]
 exact WB (fun x=>pI x i=(j:Int)+1) zs
theorem acb{z:ai}(h:(z.w0==0&&(z.w1==0&&(z.w2==0&&(z.w3==0&&true))))=true)(i:Nat):pI z i=0:=by
 simp only[Bool.and_eq_true,beq_iff_eq] at h
 match i with
 |0=>exact h.1
 |1=>exact h.2.1
 |2=>exact h.2.2.1
 |_+3=>exact h.2.2.2.1
def Fe(m:fC)(S T:Nat→Nat→Int):Prop:=∀i j,i <4→j <4→0≤m.c i j∧m.c i j+S i j=T i j
theorem Fe.init{F:List (P4×Value)}{zs:List ai}(h:CF F zs){es:Array MapEntry}(hE:tK IG F es ck):Fe ⟨fun _ _=>0⟩ (fun i j=>sW i j (cM es [])) (ax zs).c:=fun i j hi _=>⟨Int.le_refl _,by show 0+sW i j (cM es [])=_;rw[h.total hE j hi];exact Int.zero_add _⟩
def inS(z:ai)(n:Int)(q:Nat)(R:Nat→Nat→Int):Nat→Nat→Int:=fun i j=>(if i <q then 0 else fV i j (IG (pk z))*n)+R i j
theorem Fe.zero{m:fC}{z:ai}{n:Int}{es:Array MapEntry}{ck:Nat}{F:List (P4×Value)}{T:Nat→Nat→Int}{seen:List Nat}{e:MapEntry}(hE:tK IG F es ck)(he:e∈cM es seen)(hk:e.key=IG (pk z))(hz:∀i,pI z i=0)(h:Fe m (fun i j=>sW i j (cM es seen)) T):Fe m (fun i j=>sW i j (cM es (seen++[e.born]))) T:=fun i j hi hj=>by
 have h1:=h i j hi hj
 have h2:=J1 hE he i j
 rw[hk,Yw z j hi,if_neg (by rw[hz];omega),Int.zero_mul,Int.zero_add] at h2
 dsimp only at h1 ⊢
 rw[h2] at h1;exact h1
theorem Fe.open_{m:fC}{z:ai}{es:Array MapEntry}{F:List (P4×Value)}{e:MapEntry}(hE:tK IG F es ck)(he:e∈cM es seen)(hk:e.key=IG (pk z))(hv:e.val= zI n)(h:Fe m (fun i j=>sW i j (cM es seen)) T):Fe m (inS z n 0 fun i j=>sW i j (cM es (seen++[e.born]))) T:=fun i j hi hj=>by
 have h1:=h i j hi hj
 have h2:=J1 hE he i j
 rw[hk,hv] at h2
 simp only[I7] at h2
 simp only[inS,if_neg (Nat.not_lt_zero i)]
 dsimp only at h1
 rw[h2] at h1;exact h1
theorem Fe.close{m:fC}{z:ai}(h:Fe m (inS z n 4 R) T):Fe m R T:=fun i j hi hj=>by
 have h1:=h i j hi hj
 simp only[inS,if_pos hi,Int.zero_add] at h1
 exact h1
theorem Fe.skip{m:fC}{z:ai}{q:Nat}(h:Fe m (inS z n q R) T)(hq:¬pI z q>0):Fe m (inS z n (q+1) R) T:=fun i j hi hj=>by
 have h1:=h i j hi hj
 simp only[inS] at h1 ⊢
 by_cases e:i=q
 ·subst e
  rw[if_neg (Nat.lt_irrefl _),Yw z j hi,if_neg (by omega),Int.zero_mul] at h1
  rw[if_pos (Nat.lt_succ_self _)];exact h1
 by_cases e2:i <q
 ·rw[if_pos e2] at h1;rw[if_pos (by omega)];exact h1
 rw[if_neg e2] at h1;rw[if_neg (by omega)];exact h1
theorem Fe.add{m:fC}{z:ai}{q:Nat}(h:Fe m (inS z n q R) T)(hn:0≤n)(hq:pI z q>0)(hq4:q <4):Fe (r5 m q (pI z q-1).toNat (m.c q (pI z q-1).toNat+n)) (inS z n (q+1) R) T:=fun i j hi hj=>by
 have h1:=h i j hi hj
 simp only[inS,r5] at h1 ⊢
 by_cases e:i=q
 ·subst e
  rw[if_neg (Nat.lt_irrefl _),Yw z j hi] at h1
  rw[if_pos (Nat.lt_succ_self _)]
  by_cases e2:j=(pI z i-1).toNat
  ·rw[if_pos (by omega)] at h1
   rw[if_pos ⟨rfl,e2⟩,←e2];omega
  rw[if_neg (by omega)] at h1
  rw[if_neg (by omega)];omega
 rw[if_neg (c:=i=q∧j=(pI z q-1).toNat) (by omega)]
 by_cases e2:i <q
 ·rw[if_pos e2] at h1;rw[if_pos (by omega)];exact h1
 rw[if_neg e2] at h1;rw[if_neg (by omega)];exact h1
theorem Fe.bound{m:fC}{z:ai}{q:Nat}(h:Fe m (inS z n q R) T)(hR:∀i j,0≤R i j)(hn:0≤n)(hi:i <4)(hj:j <4):0≤m.c i j∧m.c i j≤T i j:=by
 have h1:=h i j hi hj
 have h2:=hR i j
 simp only[inS] at h1
 split at h1
 ·omega
 rcases aqN i j (IG (pk z)) with h3|h3<;>rw[h3] at h1<;>omega
theorem Fe.fin{m:fC}{zs:List ai}{es:Array MapEntry}(h:Fe m (fun i j=>sW i j (cM es seen)) (ax zs).c)(he:cM es seen=[]):zw m=zw (ax zs):=by
 have k (i j:Nat) (hi:i <4) (hj:j <4):m.c i j=(ax zs).c i j:=by
  have:=(h i j hi hj).2
  rw[he] at this
  simpa [sW] using this
 simp only[zw,k 0 0 (by decide) (by decide),k 0 1 (by decide) (by decide),k 0 2 (by decide) (by decide),k 0 3 (by decide) (by decide),k 1 0 (by decide) (by decide),k 1 1 (by decide) (by decide),k 1 2 (by decide) (by decide),k 1 3 (by decide) (by decide),k 2 0 (by decide) (by decide),k 2 1 (by decide) (by decide),k 2 2 (by decide) (by decide),k 2 3 (by decide) (by decide),k 3 0 (by decide) (by decide),k 3 1 (by decide) (by decide),k 3 2 (by decide) (by decide),k 3 3 (by decide) (by decide)]
theorem as4{z:ai}{q:Nat}(h:q <4):nth [zI z.w0,zI z.w1,zI z.w2,zI z.w3] ((q:Int).toNat*1)=some (zI (pI z q)):=by
 rcases y8 h with rfl|rfl|rfl|rfl<;>rfl
theorem aeK{m:fC}{a:Nat}{j:Int}(h:a <4)(k:0≤j∧j <4):nth (zw m) (0+(a:Int).toNat*4+j.toNat*1)=some (zI (m.c a j.toNat)):=by
 obtain⟨b,rfl⟩:=Int.eq_ofNat_of_zero_le k.1
 exact AZ h (by omega)
theorem aeJ{m:fC}{a:Nat}{j v:Int}(h:a <4)(k:0≤j∧j <4):dI (zw m) (0+(a:Int).toNat*4+j.toNat*1) [zI v]=zw (r5 m a j.toNat v):=by
 obtain⟨b,rfl⟩:=Int.eq_ofNat_of_zero_le k.1
 exact amg h (by omega)
theorem aeL{m:fC}{a:Nat}{j:Int}{v:Value}(h:a <4)(k:0≤j∧j <4):Nat.ble ((0+(a:Int).toNat*4+j.toNat*1)+[v].length) (zw m).length=true:=by
 obtain⟨b,rfl⟩:=Int.eq_ofNat_of_zero_le k.1
 exact amh h (by omega)
theorem aV2(z:ai):EqV zT 113 (v4 z.w0 z.w1 z.w2 z.w3) (v4 0 0 0 0) (z.w0==0&&(z.w1==0&&(z.w2==0&&(z.w3==0&&true)))):=HY (aHZ (dep:=9998) (lB Tryz.typeInfo113 Tryz.underlying113 rfl rfl rfl rfl rfl rfl) jH _ _ _ _ _ _ _ _)
theorem aQk:ny zT 113:=by unfold ny;kernel_rfl
theorem Qv{F F1:List (P4×Value)}{k:P4}(h1:((∃u,sJ k F 0=some u)∧F1=F)∨(sJ k F 0=none∧F1=F++[(k,zI 0)]))(hl:Qx (zI 0) false k F= zI n):Qx (zI 0) false k F1= zI n:=by
 rcases h1 with ⟨_,rfl⟩| ⟨hf,rfl⟩
 ·exact hl
 simp only[Qx,lkM,Br (v:= zI 0) hf]
 simpa [Qx,lkM,hf] using hl
theorem afu{v:Value}{zs:List ai}{ro:Nat→Option Obj}(hl:bH ro v 8 cy zs)(hn:zs.length≤100000)(hp:∀x∈zs,∀q,0≤pI x q∧pI x q≤4):eV zT 54 [v] ro [] (fun r Y=>r= .agg ⟨zw (ax zs)⟩∧Y=[]):=by
 obtain⟨fL,sj,si,fp,rfl,tZ,lU,mS⟩:=hl
 refine bG av [] [] bh<|zD 2<|jn fun b2=>zD 3<|jmk IG fun Gp L11 agJ=>zD 10<|ek [1,1,0,1,0,0] [] (fun(zz:Nat×(List (P4×Value))×Cells)=>[(2,zP b2),(3,(.map (some Gp))),(12,.slice fL zs.length fp),(13,zI (zs.length:Int)),(14,zI (zz.1:Int))]) (fun(zz:Nat×(List (P4×Value))×Cells)=>[.l zz.2.2,.b b2 (.cells ⟨[zI 0,zI 0,zI 0,zI 0,zI 0,zI 0,zI 0,zI 0,zI 0,zI 0,zI 0,zI 0,zI 0,zI 0,zI 0,zI 0]⟩ 123 (0,0))]) (fun(zz:Nat×(List (P4×Value))×Cells)=>zz.1≤zs.length∧ki Gp IG zz.2.1 zz.2.2∧CF zz.2.1 (zs.take zz.1)) (fun(zz:Nat×(List (P4×Value))×Cells)=>zs.length-zz.1) (⟨0,[],L11⟩) ⟨by dsimp only;omega,agJ,CF.nil⟩ [0,1] ?_
 rintro⟨k,F,LM⟩ hI K1 bM rest
 dsimp only at hI
 refine zD 5<|zJ 15 ((k:Int) <(zs.length:Int)) (fun h1=>?_) fun h1=>?_
 ·
  refine zD 6 ?_
  obtain⟨BS,mZ⟩:=zG zs k
  refine iM fp 8 lU mZ<|jl 0 (mS _ _ mZ)<|jn fun b5=>jd 2 [0] ?_
  obtain⟨nk,hlk,hnk⟩:=hI.2.2.look (pk BS)
  have SZ:(zs.take k).length=k:=by rw[List.length_take];omega
  refine jd 4 [0]<|mX [3,5] ⟨fun z2 t3 rn=>?_,fun z5 t6 U5=>?_,trivial⟩
  ·
   refine jlu (kv:=IG) (F:=F) (r:=Gp) (K:=113) (pk BS) (zI 0) false [1] LM afc (fun s _ hZ=>hI.2.1.has hZ)<|bI rn [0,1,2]<|jw 3 (zI nk) hlk<|ja (nk+1) (by omega)<|aM 5 fun ab5 acX hL8=>jme (kv:=IG) (F:=F) (r:=Gp) (L:=LM) 1 (pk BS) afc jH hI.2.1 fun Fm4 bm4 cm4 Lm4 bgJ hm4=>gY hL8 []<|aM 6 fun ab4 acW hL9=>zD 1<|bI hL9 [0,1,2]<|aM 7 fun JM JV zq=>jes 0 (zI (nk+1)) hm4 fun Lm7 hm7=>eo zq<|zD 2<|ja ((k:Int)+1) (by omega)<|zD 2<|bA bM (⟨k+1,_,Lm7⟩) ⟨by dsimp only;omega,hm7,by dsimp only;rw[jL mZ];exact hI.2.2.upd (by assumption) hlk hnk⟩ (by dsimp only;omega) [0,2] (Sub.refl _)
  refine jme (kv:=IG) (F:=F) (r:=Gp) (L:=LM) 1 (pk BS) afc jH hI.2.1 fun Fm9 bm9 cm9 Lm9 aHo hm9=>eo U5<|mX [3,6] ⟨fun z11 t12 NI=>?_,fun z14 t15 Ro=>?_,trivial⟩
  ·
   refine jlu (kv:=IG) (F:=Fm9) (r:=Gp) (K:=113) (pk BS) (zI 0) false [0] Lm9 afc (fun s _ hZ=>hm9.own.has hZ)<|eo NI<|jw 3 (zI nk) (Qv aHo hlk)<|ja (nk+1) (by omega)<|aM 6 fun ao0 apk NH=>zD 1<|bI NH [0,1,2]<|aM 7 fun azw aAf Vd=>jes 0 (zI (nk+1)) hm9 fun aW3 aEa=>eo Vd<|zD 2<|ja ((k:Int)+1) (by omega)<|zD 2<|bA bM (⟨k+1,_,aW3⟩) ⟨by dsimp only;omega,aEa,by dsimp only;rw[jL mZ];exact hI.2.2.upd (by assumption) hlk hnk⟩ (by dsimp only;omega) [0,2] (Sub.refl _)
  refine zD 1<|eo Ro<|aM 3 fun azv aAe ahG=>jlu (kv:=IG) (F:=Fm9) (r:=Gp) (K:=113) (pk BS) (zI 0) false [0] Lm9 afc (fun s _ hZ=>hm9.own.has hZ)<|eo ahG<|jw 3 (zI nk) (Qv aHo hlk)<|ja (nk+1) (by omega)<|aM 7 fun azu aAd Vb=>jes 0 (zI (nk+1)) hm9 fun aW2 agI=>eo Vb<|zD 2<|ja ((k:Int)+1) (by omega)<|zD 2<|bA bM (⟨k+1,_,aW2⟩) ⟨by dsimp only;omega,agI,by dsimp only;rw[jL mZ];exact hI.2.2.upd (by assumption) hlk hnk⟩ (by dsimp only;omega) [0,2] (Sub.refl _)
 refine zD 4<|jn fun b6=>jf [1] LM (fun bcU auJ avC=>?_)
 have hCF:CF F zs:=by have:=hI.2.2;rwa[show k=zs.length by omega,List.take_length] at this
 obtain⟨B0,IZ,rfl,hE1⟩:=hI.2.1
 refine zD 5<|jmR (avC _ (.head _)) fun r27=>jg 0 [.b r27 (uY Gp IZ [])]<|zD 2<|ek [1,1,1,1,0,1,0,0] [] (fun(zz:(List Nat)×fC)=>[(2,zP b2),(6,zP b6),(27,zP r27)]) (fun(zz:(List Nat)×fC)=>[.b r27 (uY Gp IZ zz.1),.b b6 (.cells ⟨[zI (zz.2.c 0 0),zI (zz.2.c 0 1),zI (zz.2.c 0 2),zI (zz.2.c 0 3),zI (zz.2.c 1 0),zI (zz.2.c 1 1),zI (zz.2.c 1 2),zI (zz.2.c 1 3),zI (zz.2.c 2 0),zI (zz.2.c 2 1),zI (zz.2.c 2 2),zI (zz.2.c 2 3),zI (zz.2.c 3 0),zI (zz.2.c 3 1),zI (zz.2.c 3 2),zI (zz.2.c 3 3)]⟩ 123 (0,0)),.b b2 (.cells ⟨[zI 0,zI 0,zI 0,zI 0,zI 0,zI 0,zI 0,zI 0,zI 0,zI 0,zI 0,zI 0,zI 0,zI 0,zI 0,zI 0]⟩ 123 (0,0))]) (fun(zz:(List Nat)×fC)=>Fe zz.2 (fun i j=>sW i j (cM B0 zz.1)) (ax zs).c) (fun(zz:(List Nat)×fC)=>(cM B0 zz.1).length) (⟨[],⟨fun _ _=>0⟩⟩) (Fe.init hCF hE1) [0,1,2] ?_
 rintro⟨seen,m⟩ hI K21 anN rest
 dsimp only at hI
 refine zD 2<|jmN (it:=r27) (kv:=IG) (seen:=seen) 0 (avC _ (.head _)) hE1 (fun k28 v28 e28 aEB aaP avA aDh=>?_) (fun auh=>?_)
 ·
  obtain⟨GK,aql,aD1⟩:=hCF.val _ aEB
  obtain⟨lf,auh,hkz⟩:=hCF.key _ aEB
  dsimp only at aql hkz
  subst aql
  subst hkz
  have hpz:=hp lf auh
  have cN:=GS aaP
  refine jg 0 [.b r27 (uY Gp IZ (seen++[e28.born]))]<|zD 8<|jmE (it:=r27) 0 (avC _ (.head _)) hE1 aaP avA aDh<|jg 0 [.b r27 (uY Gp IZ (seen++[e28.born]))]<|zD 2<|jn fun b7=>jd 8 [0,0]<|jeq aQk (aV2 lf)<|zD 1<|js 35 (lf.w0==0&&(lf.w1==0&&(lf.w2==0&&(lf.w3==0&&true)))) (fun h21=>?_) (fun h21=>?_)
  ·
   refine zD 2<|bA anN (⟨(seen++[e28.born]),m⟩) (hI.zero (n:=0) hE1 aaP avA (acb (by assumption))) cN [1,2,3] (Sub.refl _)
  refine jd 8 [0]<|ek [1,1,1,1,0,1,0,0,1,1,0,1,1,1,0,0] [K21] (fun(zz:Nat×fC)=>[(2,zP b2),(6,zP b6),(8,zI GK),(27,zP r27),(36,.agg ⟨[zI lf.w0,zI lf.w1,zI lf.w2,zI lf.w3]⟩),(37,zI (zz.1:Int))]) (fun(zz:Nat×fC)=>[.b r27 (uY Gp IZ (seen++[e28.born])),.b b6 (.cells ⟨[zI (zz.2.c 0 0),zI (zz.2.c 0 1),zI (zz.2.c 0 2),zI (zz.2.c 0 3),zI (zz.2.c 1 0),zI (zz.2.c 1 1),zI (zz.2.c 1 2),zI (zz.2.c 1 3),zI (zz.2.c 2 0),zI (zz.2.c 2 1),zI (zz.2.c 2 2),zI (zz.2.c 2 3),zI (zz.2.c 3 0),zI (zz.2.c 3 1),zI (zz.2.c 3 2),zI (zz.2.c 3 3)]⟩ 123 (0,0)),.b b7 (.cells ⟨[zI lf.w0,zI lf.w1,zI lf.w2,zI lf.w3]⟩ 113 (0,0)),.b b2 (.cells ⟨[zI 0,zI 0,zI 0,zI 0,zI 0,zI 0,zI 0,zI 0,zI 0,zI 0,zI 0,zI 0,zI 0,zI 0,zI 0,zI 0]⟩ 123 (0,0))]) (fun(zz:Nat×fC)=>zz.1≤4∧Fe zz.2 (inS lf GK zz.1 (fun i j=>sW i j (cM B0 (seen++[e28.born])))) (ax zs).c) (fun(zz:Nat×fC)=>4-zz.1) (⟨0,m⟩) ⟨by dsimp only;omega,hI.open_ hE1 aaP avA aDh⟩ [1,2,0,3] ?_
  rintro⟨q,m⟩ hJ K22 aHj rest
  dsimp only at hJ
  refine zD 5<|zJ 38 ((q:Int) <4) (fun FE=>?_) fun FE=>?_
  ·
   refine zD 7<|jai (l:=[zI lf.w0,zI lf.w1,zI lf.w2,zI lf.w3]) (q:Int) 4 1 false (by omega) (v:= zI (pI lf q)) (show nth [_,_,_,_] _=_ from as4 (by omega))<|zD 8<|zJ 42 ((pI lf q)>0) (fun Ao=>?_) fun Ao=>?_
   ·
    refine zD 4<|ja ((pI lf q)-1) (by have:=hpz q;omega) ?_
    refine GY (b:=b6) (off:=0) (len:=4) (sz:=4) (q:Int) (by omega)<|GY (b:=b6) (off:=0+(q:Int).toNat*4) (len:=4) (sz:=1) ((pI lf q)-1) (by have:=hpz q;omega) ?_
    refine mY (b:=b6) (off:=0+(q:Int).toNat*4+((pI lf q)-1).toNat*1) (m:=1) (vs:=[zI (m.c q (pI lf q-1).toNat)]) 0 [1] [(b6,.cells ⟨[zI (m.c 0 0),zI (m.c 0 1),zI (m.c 0 2),zI (m.c 0 3),zI (m.c 1 0),zI (m.c 1 1),zI (m.c 1 2),zI (m.c 1 3),zI (m.c 2 0),zI (m.c 2 1),zI (m.c 2 2),zI (m.c 2 3),zI (m.c 3 0),zI (m.c 3 1),zI (m.c 3 2),zI (m.c 3 3)]⟩ 123 (0,0))] (fun s _ hZ=>oI (hZ _ (.head _)) (aeK (m:=m) (by omega) (by have:=hpz q;omega))) ?_
    refine zD 1<|ja ((m.c q (pI lf q-1).toNat)+GK) (by have h7:=hJ.2.bound (fun i j=>Pj (ak9 hCF hE1)) aD1.1 (i:=q) (j:=(pI lf q-1).toNat) (by omega) (by have:=hpz q;omega);have h8:=Dr zs q (pI lf q-1).toNat;omega) ?_
    refine GY (b:=b6) (off:=0) (len:=4) (sz:=4) (q:Int) (by omega)<|GY (b:=b6) (off:=0+(q:Int).toNat*4) (len:=4) (sz:=1) ((pI lf q)-1) (by have:=hpz q;omega) ?_
    refine aM 10 fun azr aAa ahE=>jsx 1 b6 (0+(q:Int).toNat*4+((pI lf q)-1).toNat*1) [zI (m.c 0 0),zI (m.c 0 1),zI (m.c 0 2),zI (m.c 0 3),zI (m.c 1 0),zI (m.c 1 1),zI (m.c 1 2),zI (m.c 1 3),zI (m.c 2 0),zI (m.c 2 1),zI (m.c 2 2),zI (m.c 2 3),zI (m.c 3 0),zI (m.c 3 1),zI (m.c 3 2),zI (m.c 3 3)] [zI ((m.c q (pI lf q-1).toNat)+GK)] 123 (by intro v hv;rw[List.mem_singleton] at hv;subst hv;rfl) (aeL (m:=m) (by omega) (by have:=hpz q;omega)) ?_
    refine jmw 0 [.b b6 (.cells ⟨[zI ((r5 m q (pI lf q-1).toNat (m.c q (pI lf q-1).toNat+GK)).c 0 0),zI ((r5 m q (pI lf q-1).toNat (m.c q (pI lf q-1).toNat+GK)).c 0 1),zI ((r5 m q (pI lf q-1).toNat (m.c q (pI lf q-1).toNat+GK)).c 0 2),zI ((r5 m q (pI lf q-1).toNat (m.c q (pI lf q-1).toNat+GK)).c 0 3),zI ((r5 m q (pI lf q-1).toNat (m.c q (pI lf q-1).toNat+GK)).c 1 0),zI ((r5 m q (pI lf q-1).toNat (m.c q (pI lf q-1).toNat+GK)).c 1 1),zI ((r5 m q (pI lf q-1).toNat (m.c q (pI lf q-1).toNat+GK)).c 1 2),zI ((r5 m q (pI lf q-1).toNat (m.c q (pI lf q-1).toNat+GK)).c 1 3),zI ((r5 m q (pI lf q-1).toNat (m.c q (pI lf q-1).toNat+GK)).c 2 0),zI ((r5 m q (pI lf q-1).toNat (m.c q (pI lf q-1).toNat+GK)).c 2 1),zI ((r5 m q (pI lf q-1).toNat (m.c q (pI lf q-1).toNat+GK)).c 2 2),zI ((r5 m q (pI lf q-1).toNat (m.c q (pI lf q-1).toNat+GK)).c 2 3),zI ((r5 m q (pI lf q-1).toNat (m.c q (pI lf q-1).toNat+GK)).c 3 0),zI ((r5 m q (pI lf q-1).toNat (m.c q (pI lf q-1).toNat+GK)).c 3 1),zI ((r5 m q (pI lf q-1).toNat (m.c q (pI lf q-1).toNat+GK)).c 3 2),zI ((r5 m q (pI lf q-1).toNat (m.c q (pI lf q-1).toNat+GK)).c 3 3)]⟩ 123 (0,0))] (L:=[(b6,.cells ⟨dI [zI (m.c 0 0),zI (m.c 0 1),zI (m.c 0 2),zI (m.c 0 3),zI (m.c 1 0),zI (m.c 1 1),zI (m.c 1 2),zI (m.c 1 3),zI (m.c 2 0),zI (m.c 2 1),zI (m.c 2 2),zI (m.c 2 3),zI (m.c 3 0),zI (m.c 3 1),zI (m.c 3 2),zI (m.c 3 3)] (0+(q:Int).toNat*4+((pI lf q)-1).toNat*1) [zI ((m.c q (pI lf q-1).toNat)+GK)]⟩ 123 (0,0))]) (by rw[aeJ (m:=m) (by omega) (by have:=hpz q;omega)];rfl) ?_
    refine gY ahE []<|zD 2<|ja ((q:Int)+1) (by omega)<|zD 2<|bA aHj (⟨q+1,(r5 m q (pI lf q-1).toNat (m.c q (pI lf q-1).toNat+GK))⟩) ⟨by dsimp only;omega,hJ.2.add aD1.1 (by assumption) (by omega)⟩ (by dsimp only;omega) [1,0,2,3] (Sub.refl _)
   refine zD 3<|ja ((q:Int)+1) (by omega)<|zD 2<|bA aHj (⟨q+1,m⟩) ⟨by dsimp only;omega,hJ.2.skip (by assumption)⟩ (by dsimp only;omega) [0,1,2,3] (Sub.refl _)
  refine zD 2<|bA anN (⟨(seen++[e28.born]),m⟩) (Fe.close (z:=lf) (n:=GK) (by have:=hJ.2;rwa[show q=4 by omega] at this)) cN [0,1,3] (Sub.refl _)
 refine jg 0 [.b r27 (uY Gp IZ seen)]<|jd 11 [1,2]<|aH q0.a (.agg ⟨[zI (m.c 0 0),zI (m.c 0 1),zI (m.c 0 2),zI (m.c 0 3),zI (m.c 1 0),zI (m.c 1 1),zI (m.c 1 2),zI (m.c 1 3),zI (m.c 2 0),zI (m.c 2 1),zI (m.c 2 2),zI (m.c 2 3),zI (m.c 3 0),zI (m.c 3 1),zI (m.c 3 2),zI (m.c 3 3)]⟩) [2] [] [] auJ ⟨_,_,rfl,rfl,by rw[←hI.fin auh],rfl⟩
theorem R7:q8:=fun hl hn hp=>afu hl hn hp
theorem Bp:∀(l:List Int) (a:Int),l.foldl min a=a∨l.foldl min a∈l
 | [],_=> .inl rfl
 |y::l,a=>by
  simp only[List.foldl_cons]
  rcases Bp l (min a y) with h|h
  ·rw[h]
   rcases(by omega:min a y=a∨min a y=y) with e|e
   ·exact .inl e
   rw[e];exact .inr List.mem_cons_self
  exact .inr (List.mem_cons_of_mem _ h)
theorem Qr:∀ {l:List Int},l≠[]→vg l∈l
 | [],h=>absurd rfl h
 |y::l,_=>by
  show l.foldl min y∈_
  rcases Bp l y with h|h
  ·rw[h];exact List.mem_cons_self
  exact List.mem_cons_of_mem _ h
theorem KM{l m:List Int}(h:l.Perm m)(hl:l≠[]):vg l=vg m:=by
 have h1:=M7 (h.mem_iff.1 (Qr hl))
 have h2:=M7 (h.mem_iff.2 (Qr (fun e=>hl (by rw[e] at h;exact h.eq_nil))))
 omega
theorem HL:∀(l:List Int) (a:Int),a≤l.foldl max a∧∀x∈l,x≤l.foldl max a
 | [],a=>⟨Int.le_refl _,fun _ h=>(by cases h)⟩
 |y::l,a=>by
  obtain⟨h1,h2⟩:=HL l (max a y)
  refine⟨by simp only[List.foldl_cons];omega,fun x hx=>?_⟩
  rcases List.mem_cons.1 hx with rfl|hx
  ·simp only[List.foldl_cons];omega
  exact h2 x hx
theorem Bq:∀(l:List Int) (a:Int),l.foldl max a=a∨l.foldl max a∈l
 | [],_=> .inl rfl
 |y::l,a=>by
  simp only[List.foldl_cons]
  rcases Bq l (max a y) with h|h
  ·rw[h]
   rcases(by omega:max a y=a∨max a y=y) with e|e
   ·exact .inl e
   rw[e];exact .inr List.mem_cons_self
  exact .inr (List.mem_cons_of_mem _ h)
theorem XA{l:List Int}{x:Int}(h:x∈l):x≤CQ l:=by
 cases l with
 |nil=>cases h
 |cons y l=>
  rcases List.mem_cons.1 h with rfl|h
  ·exact(HL l _).1
  exact(HL l _).2 x h
theorem Qs:∀ {l:List Int},l≠[]→CQ l∈l
 | [],h=>absurd rfl h
 |y::l,_=>by
  show l.foldl max y∈_
  rcases Bq l y with h|h
  ·rw[h];exact List.mem_cons_self
  exact List.mem_cons_of_mem _ h
theorem aaj{l m:List Int}(h:l.Perm m)(hl:l≠[]):CQ l=CQ m:=by
 have h1:=XA (h.mem_iff.1 (Qs hl))
 have h2:=XA (h.mem_iff.2 (Qs (fun e=>hl (by rw[e] at h;exact h.eq_nil))))
 omega
theorem Na{β:Type}{f:α→β}{l:List α}(h:l≠[]):l.map f≠[]:=fun e=>h (List.map_eq_nil_iff.1 e)
abbrev fsT:List dc:=[⟨2,1,true⟩,⟨0,1,true⟩]
theorem cC(h:0≤n∧n≤4):ko (aV n):=aqR (fs:=[]) h (by decide) (by simp) .nil
theorem cV:eZ (aV n):=aqQ (fs:=[]) (by decide) (by simp)
theorem cCT:ko (En 2 fsT):=aqR (by decide) (by decide) (by decide) (by decide)
theorem cVT:eZ (En 2 fsT):=aqQ (by decide) (by decide)
theorem rT:dt (aV 2)=4:=by kernel_rfl
theorem rL:vg ((cJ (aV 1) (aR (aV 1)) (fun _=>true) (dq (aV 1))).map F8)=2:=by kernel_rfl
theorem rLn:(cJ (aV 1) (aR (aV 1)) (fun _=>true) (dq (aV 1))).length=0→False:=by
 have e:Nat.beq (cJ (aV 1) (aR (aV 1)) (fun _=>true) (dq (aV 1))).length 0=false:=by kernel_rfl
 intro h;rw[h] at e;cases e
theorem r1n:(cJ (aV 1) (aR (aV 1)) (bZ (aV 1).gone (aV 1).new (aV 1).af) (dq (aV 1))).length=0→False:=by
 have e:Nat.beq (cJ (aV 1) (aR (aV 1)) (bZ (aV 1).gone (aV 1).new (aV 1).af) (dq (aV 1))).length 0=false:=by kernel_rfl
 intro h;rw[h] at e;cases e
theorem r2n:(cJ (aV 2) (aR (aV 2)) (bZ (aV 2).gone (aV 2).new (aV 2).af) (dq (aV 2))).length=0→False:=by
 have e:Nat.beq (cJ (aV 2) (aR (aV 2)) (bZ (aV 2).gone (aV 2).new (aV 2).af) (dq (aV 2))).length 0=false:=by kernel_rfl
 intro h;rw[h] at e;cases e
theorem rM1:vg ((cJ (aV 2) (aR (aV 2)) (bZ (aV 2).gone (aV 2).new (aV 2).af) (dq (aV 2))).map fun x=>x.af)=0:=by kernel_rfl
theorem rM2:CQ ((cJ (aV 2) (aR (aV 2)) (bZ (aV 2).gone (aV 2).new (aV 2).af) (dq (aV 2))).map fun x=>x.af)=2:=by kernel_rfl
theorem rU:pR (ax (cJ (aV 1) (aR (aV 1)) (bZ (aV 1).gone (aV 1).new (aV 1).af) (dq (aV 1)))) (((cJ (aV 1) (aR (aV 1)) (bZ (aV 1).gone (aV 1).new (aV 1).af) (dq (aV 1))).length:Nat):Int) (aV 1).after.length (aV 1).before.length=[[0,0],[2,1]]:=by kernel_rfl
theorem rW:Mg (En 2 fsT) (dq (En 2 fsT))=some 1:=by kernel_rfl
theorem rL1:mv 1 4=[0]:=by kernel_rfl
theorem rA:(VU (abx (ax (cJ (aV 2) (aR (aV 2)) (bZ (aV 2).gone (aV 2).new (aV 2).af) (dq (aV 2)))) (((cJ (aV 2) (aR (aV 2)) (bZ (aV 2).gone (aV 2).new (aV 2).af) (dq (aV 2))).length:Nat):Int) (aV 2).after.length (aV 2).before.length)).2.2=(2,0):=by kernel_rfl
theorem ZK{ro:Nat→Option Obj}(hK:fU ro l (aV 2)):B1 zT 15 [.agg ⟨l⟩] ro [] (fun r Y=>r= .tuple ⟨[zI 4,zI 0]⟩∧Y=[]):=
 (afd hK (cC (by decide)) cV).mono fun v X h=>⟨by rw[h.1,rT];rfl,h.2⟩
theorem adK{ro:Nat→Option Obj}(hK:fU ro l (aV 1)):B1 zT 36 [.agg ⟨l⟩] ro [] (fun r Y=>r= .tuple ⟨[zI 2,zI 0]⟩∧Y=[]):=
 (amI hK (cC (by decide)) cV).mono fun v X ⟨zs,m,e,hz,hY,hr,h⟩=>by
  rcases h with ⟨h,_⟩| ⟨h,hm,he⟩
  ·exact(rLn (by rw[←hz.length_eq,h];rfl)).elim
  exact⟨by rw[hr,hm,he,KM (hz.map F8) (Na h),rL],hY⟩
theorem aly{ro:Nat→Option Obj}(hK:fU ro l (aV 1)):B1 zT 22 [.agg ⟨l⟩] ro [] (fun r Y=>∃v,r= .tuple ⟨[v,zI 0]⟩∧∀aK,Knows aK Y→LL aK v [[0,0],[2,1]]):=
 (atY hK cV (mQ (cC (by decide))) (xk hK (cC (by decide)) cV) R7).mono fun r X ⟨zs,v,e,hz,hr,h⟩=>by
  rcases h with ⟨h,_⟩| ⟨h,he,hl⟩
  ·exact(r1n (by rw[←hz.length_eq,h];rfl)).elim
  refine⟨v,by rw[hr,he],fun aK hk=>?_⟩
  have:=hl aK hk
  rwa[BB hz,hz.length_eq,rU] at this
theorem adJ{ro:Nat→Option Obj}(hK:fU ro l (aV 2)):B1 zT 35 [.agg ⟨l⟩] ro [] (fun r Y=>r= .tuple ⟨[.agg ⟨[zI 0,zI 2]⟩,zI 0]⟩∧Y=[]):=
 (at0 hK cV (mQ (cC (by decide))) (xk hK (cC (by decide)) cV)).mono fun r X ⟨zs,a,b,e,hz,hY,hr,h⟩=>by
  rcases h with ⟨h,_⟩| ⟨h,ha,hb,he⟩
  ·exact(r2n (by rw[←hz.length_eq,h];rfl)).elim
  exact⟨by rw[hr,ha,hb,he,KM (hz.map _) (Na h),aaj (hz.map _) (Na h),rM1,rM2],hY⟩
theorem asG{ro:Nat→Option Obj}(hK:fU ro l (aV 2)):B1 zT 40 [.agg ⟨l⟩] ro [] (fun r Y=>∃a b,r= .tuple ⟨[zI a,zI b,zI 2,zI 0]⟩∧Y=[]):=
 (aQD hK cV (mQ (cC (by decide))) (xk hK (cC (by decide)) cV) R7).mono fun r X ⟨zs,a,b,w,e,hz,hY,hr,h⟩=>by
  rcases h with ⟨h,_⟩| ⟨h,ha⟩
  ·exact(r2n (by rw[←hz.length_eq,h];rfl)).elim
  rw[BB hz,hz.length_eq] at ha
  have h2:=congrArg (fun x:Int×Int×Int×Int=>x.2.2) ha
  dsimp only at h2
  rw[rA] at h2
  cases h2
  exact⟨a,b,hr,hY⟩
theorem adI{ro:Nat→Option Obj}(hK:fU ro l (En 2 fsT)):eV zT 37 [.agg ⟨l⟩] ro [] (fun r Y=>∃v,r= .tuple ⟨[v,zI 0]⟩∧az v 1 3 cq [0] Y):=
 Fn.mono (atG hK cVT (mQ cCT) (xk hK cCT cVT) (by decide)) fun en s' ⟨r,X,h1,h2,v,e,hr,h⟩=>⟨r,X,h1,h2,by
  rcases h with ⟨m,hm,ho,he⟩| ⟨hm,_⟩
  ·rw[rW] at hm;cases hm
   rw[rL1] at ho
   exact⟨v,by rw[hr,he],ho⟩
  rw[rW] at hm;cases hm⟩
theorem ae7{ro:Nat→Option Obj}{v4 vf:Value}{fa:Option Addr}{fs:List dc}(h:fU ro [v0,v1,.slice fa 0 fc,v3,v4,v5,v6,v7,zI 1,zI 1,zI n,vb] (aV n))(hf:bH ro vf 3 xa fs):fU ro [v0,v1,.slice fa 0 fc,v3,v4,v5,v6,v7,zI 1,zI 1,zI n,vf] (En n fs):=by
 obtain⟨w0,w1,w3,w4,w5,w6,w7,wb,ga,gc,hv,e,h1,h2,h3,h4,h5,h6,h7,_⟩:=h
 cases e
 exact⟨_,_,_,_,_,_,_,_,_,_,hv,rfl,h1,h2,h3,h4,h5,h6,h7,hf⟩
theorem O7{v4:Value}{fa fb:Option Addr}{fn fd:Nat}(h:∀v∈[v0,v1,v3,v4,v5,v6,v7,vb],single v=true):∀v∈[v0,v1,.slice fa 0 fc,v3,v4,v5,v6,v7,zI 1,zI 1,zI 2,.slice fb fn fd],single v=true:=by
 simp only[List.mem_cons,List.not_mem_nil,or_false] at h ⊢
 rintro v (rfl|rfl|rfl|rfl|rfl|rfl|rfl|rfl|rfl|rfl|rfl|rfl)<;>first|rfl|exact h _ (by simp)
theorem LL.up{ro aK:Nat→Option Obj}{v:Value}{W:List (List Int)}(h:LL ro v W)(hs:Sub ro aK):LL aK v W:=by
 obtain⟨ws,h1,h2⟩:=h
 exact⟨ws,h1.up hs,h2.imp fun _ _ k=>k.up hs⟩
theorem aHW(a b c d:Int):EqV zT 93 (.agg ⟨[zI a,zI b]⟩) (.agg ⟨[zI c,zI d]⟩) (a==c&&(b==d&&true)):=
 HY (qW (dep:=9999) (lB Tryz.typeInfo93 Tryz.underlying93 rfl rfl rfl rfl rfl rfl) Tryz.stoodInHeld93 (.cons (by decide) (fE jH rfl) (fE jH rfl) (k7 jH _ _) (.cons (by decide) (fE jH rfl) (fE jH rfl) (k7 jH _ _) .nil)))
theorem aQj:ny zT 93:=by unfold ny;kernel_rfl
theorem WX{ro:Nat→Option Obj}:B1 zT 9 [] ro [] (fun r Y=>r= .bool true∧Y=[]):=by
 refine za av [] [] bh fun fr=>zD 6<|jc (vs:=[zI 2]) [] (LW) ?_
 rintro _ Y16 ⟨l16,rfl,aUE,Ro⟩
 refine jf [0] Y16 (fun yn bB iN=>?_)
 have aVc:=aUE _ iN
 refine KZ (vs:=[(.agg ⟨l16⟩)]) [] (fun _ _ h=>h) (ZK aVc) ?_
 rintro _ _ ⟨rfl,rfl⟩
 refine jg 0 []<|zD 8<|jc (vs:=[zI 1]) [] (LW) ?_
 rintro _ Y21 ⟨l21,rfl,aUD,Rn⟩
 refine jf [0] Y21 (fun ro6 fA OF=>?_)
 have anN:=aUD _ OF
 refine KZ (vs:=[(.agg ⟨l21⟩)]) [] (fun _ _ h=>h) (aly anN) ?_
 rintro _ Y22 ⟨v22,rfl,aSI⟩
 refine zD 5<|jf [0] Y22 (fun ro9 iS hk8=>?_)
 have aUG:=aSI _ hk8
 refine zD 3<|jc (vs:=[zI 2]) [] (LW) ?_
 rintro _ Y26 ⟨wz,rfl,aUC,Jz⟩
 refine jf [0] Y26 (fun bcY aDu aSX=>?_)
 have aVb:=aUC _ aSX
 refine KZ (vs:=[(.agg ⟨wz⟩)]) [] (fun _ _ h=>h) (adJ aVb) ?_
 rintro _ _ ⟨rfl,rfl⟩
 refine jg 0 []<|zD 3<|jn fun b5=>jd 5 [0]<|jc (vs:=[zI 1]) [] (LW) ?_
 rintro _ Y31 ⟨l31,rfl,aUB,Rm⟩
 refine jf [0] Y31 (fun bcW aDs anm=>?_)
 have aVa:=aUB _ anm
 refine KZ (vs:=[(.agg ⟨l31⟩)]) [] (fun _ _ h=>h) (adK aVa) ?_
 rintro _ _ ⟨rfl,rfl⟩
 refine jg 0 []<|zD 8<|jc (vs:=[zI 2]) [] (LW) ?_
 rintro _ Y36 ⟨l36,rfl,aUA,NC⟩
 refine jp (vs:=[zI 2,zI 1,.bool true]) [] [] (fun aC hs hZ=>aIc)<|jp (vs:=[zI 0,zI 1,.bool true]) [] [] (fun aC hs hZ=>aIc)<|jn fun b39=>jf [1,0] (Y36++[(b39,.cells ⟨[zI 2,zI 1,.bool true,zI 0,zI 1,.bool true]⟩ 54 (0,0))]) (fun bcV aDr aaN=>?_)
 have aU9:=aUA _ (Knows.left aaN)
 have aTc:=bF (sz:=3) (enc:=xa) (T:=54) [⟨2,1,true⟩,⟨0,1,true⟩] (Knows.right aaN _ (.head _)) (fun _ _=>rfl)
 obtain⟨v0,v1,v3,v4,v5,v6,v7,vb,fa,fc,rfl,aRN⟩:=NC
 refine jp (vs:=[.agg ⟨[v0,v1,(.slice fa 0 fc),v3,v4,v5,v6,v7,zI 1,zI 1,zI 2,vb]⟩,(.slice (some ⟨b39,0,none⟩) 2 2)]) [] [] (fun aC hs hZ=>aIb (O7 aRN))<|jc (vs:=[.agg ⟨[v0,v1,(.slice fa 0 fc),v3,v4,v5,v6,v7,zI 1,zI 1,zI 2,(.slice (some ⟨b39,0,none⟩) 2 2)]⟩]) [] (adI (ae7 aU9 aTc)) ?_
 rintro _ Y41 ⟨v41,rfl,aSk⟩
 refine zD 8<|jc (vs:=[zI 2]) [] (LW) ?_
 rintro _ Y45 ⟨l45,rfl,aUz,aFf⟩
 refine jf [0] Y45 (fun bcT aDq aSV=>?_)
 have aU8:=aUz _ aSV
 refine KZ (vs:=[(.agg ⟨l45⟩)]) [] (fun _ _ h=>h) (asG aU8) ?_
 rintro _ _ ⟨qa,qb,rfl,rfl⟩
 refine jg 0 []<|jd 49 [1]<|jeq aQj (aHW 0 2 0 2)<|zD 3<|jn fun b92=>jn fun b93=>jn fun b94=>jf [2,1,0] ((b92,.cells ⟨[zI 0,zI 0]⟩ 3 (0,0))::((b93,.cells ⟨[zI 2,zI 1]⟩ 3 (0,0))::[(b94,.cells ⟨[.slice (some ⟨b92,0,none⟩) 2 2,.slice (some ⟨b93,0,none⟩) 2 2]⟩ 22 (0,0))])) (fun bcS aDp avB=>?_)
 obtain⟨wsM,hsM,haM⟩:=aUG.up ((((aDu.trans aDs).trans aDr).trans aDq).trans aDp)
 have aRl:=bF (sz:=1) (enc:=gT) (T:=22) [.slice (some ⟨b92,0,none⟩) 2 2,.slice (some ⟨b93,0,none⟩) 2 2] (avB _ (.tail _ (.tail _ (.head _)))) (fun _ _=>rfl)
 have aUs:=bF (sz:=1) (enc:=cq) (T:=3) [0,0] (avB _ (.head _)) (fun _ _=>rfl)
 have aUr:=bF (sz:=1) (enc:=cq) (T:=3) [2,1] (avB _ (.tail _ (.head _))) (fun _ _=>rfl)
 refine jp (vs:=[v22,(.slice (some ⟨b94,0,none⟩) 2 2)]) [] [] (fun aC hs hZ=>(show dz _ _ _ _ (.bool (E6 [[0,0],[2,1]] [[0,0],[2,1]])) from axj (hsM.up hs) (aRl.up hs) (haM.imp fun _ _ h=>h.up hs) (.cons (aUs.up hs) (.cons (aUr.up hs) .nil)) (by decide) (by decide) (by decide) (by decide)))<|zD 3<|jn fun b99=>jp (vs:=[v41,.slice (some ⟨b99,0,none⟩) 1 1]) [1,0] (Y41++[(b99,.cells ⟨([0].map cq).flatten⟩ 3 (0,0))]) (fun aC hs hZ=>(show dz _ _ _ _ (.bool (HZ [0] [0])) from RZ (aSk.kJ hZ.left) (bF [0] hZ.right.head (by intro p hp;rfl)) (by decide) (by decide))) ?_
 refine zD 4<|II qC.a.a.a.a.a.a.a.a (.bool true) [3] [] (((((((bB.trans fA).trans iS).trans aDu).trans aDs).trans aDr).trans aDq).trans aDp) ⟨rfl,rfl⟩
theorem Yi{n:Nat}(hn:n≤4)(hi:i <n):hasB (IntKind.u8.wrap (dJ .u8 1 (n:Int)-1)) i=true:=by
 have h:(n=1∧i=0)∨(n=2∧(i=0∨i=1))∨(n=3∧(i=0∨i=1∨i=2))∨(n=4∧(i=0∨i=1∨i=2∨i=3)):=by omega
 rcases h with ⟨rfl,rfl⟩| ⟨rfl,rfl|rfl⟩| ⟨rfl,rfl|rfl|rfl⟩| ⟨rfl,rfl|rfl|rfl|rfl⟩<;>rfl
def u9(a b:Int)(l:List dc):Bool:=l.any fun x=>(decide (x.a=a)&&decide (x.b=b))&& !x.same
def pw(p:Nat→Int)(l:List dc):Bool:=l.all fun x=> !x.same||decide (p x.a.toNat=x.b+1)
theorem WI{on:Int}{a b:Int}:∀ {l:List dc} {k:Nat},(∀j,j <l.length→hasB on ((k+j:Nat):Int)=true)→Cf on a b l k=u9 a b l
 | [],_,_=>rfl
 |x::l,k,h=>by
  have h0:=h 0 (Nat.zero_lt_succ _)
  have ih:=WI (a:=a) (b:=b) (l:=l) (k:=k+1) fun j hj=>by
   have:=h (j+1) (Nat.succ_lt_succ hj)
   rwa[show k+1+j=k+(j+1) by omega]
  simp only[Nat.add_zero] at h0
  simp only[Cf,h0,ih,u9,List.any_cons,Bool.true_and]
theorem J6{on:Int}{p:Nat→Int}:∀ {l:List dc} {k:Nat},(∀j,j <l.length→hasB on ((k+j:Nat):Int)=true)→lT on p l k=pw p l
 | [],_,_=>rfl
 |x::l,k,h=>by
  have h0:=h 0 (Nat.zero_lt_succ _)
  have ih:=J6 (p:=p) (l:=l) (k:=k+1) fun j hj=>by
   have:=h (j+1) (Nat.succ_lt_succ hj)
   rwa[show k+1+j=k+(j+1) by omega]
  simp only[Nat.add_zero] at h0
  simp only[lT,h0,ih,pw,List.all_cons,Bool.true_and]
  cases x.same<;>cases decide (p x.a.toNat=x.b+1)<;>simp
def gF(F:Nat→Nat→Bool)(R:(Nat→Int)→Bool)(na:Nat):Nat→Nat→(Nat→Int)→List (Nat→Int)
 |0,_,p=>bif R p then [p] else []
 |n+1,a,p=>gF F R na n (a+1) p++(List.range na).flatMap fun b=>bif !F a b||qN p a ((b:Int)+1) then [] else gF F R na n (a+1) (iF p a ((b:Int)+1))
def vu(K:aE)(a b:Nat):Bool:=match K.before[a]?,K.after[b]? with
 |some x,some y=> !Ab K x y&&(!uL K x y&& !u9 a b K.facts)
 |_,_=>false
theorem an4(h:K.facts.length≤4)(a b:Nat):dw K (aR K) a b=vu K a b:=by
 have e:Cf (aR K) a b K.facts 0=u9 a b K.facts:=WI fun j hj=>by
  rw[Nat.zero_add];exact Yi h hj
 simp only[dw,vu,e]
 cases K.before[a]?<;>cases K.after[b]?<;>rfl
theorem oQ(h:K.facts.length≤4):∀(n a:Nat) (p:Nat→Int),iU K (aR K) n a p=gF (vu K) (fun p=>pw p K.facts) K.after.length n a p
 |0,a,p=>by
  have e:lT (aR K) p K.facts 0=pw p K.facts:=J6 fun j hj=>by
   rw[Nat.zero_add];exact Yi h hj
  simp only[iU,gF,e]
 |n+1,a,p=>by
  simp only[iU,gF,an4 h,oQ h n]
theorem kS{r:bE}{p:Nat→Int}{q:Nat}(hq:q <4):pI (cu K r i p) q=p q:=by
 rcases y8 hq with rfl|rfl|rfl|rfl<;>rfl
theorem By:∀l:List Int,HZ l l=true
 | []=>rfl
 |x::l=>by simp[HZ,By l]
theorem HQ{p:Int→Bool}:∀(l:List Int) (k:Nat),bP p l k≥0↔∃x∈l,p x=true
 | [],k=>by simp[bP]
 |x::l,k=>by
  have ih:=HQ (p:=p) l (k+1)
  simp only[bP,List.mem_cons,exists_eq_or_imp]
  cases h:p x
  ·simp only[cond_false,Bool.false_eq_true,false_or];exact ih
  simp only[cond_true,true_or,iff_true];omega
theorem Wv(p:Nat→Int){a:Nat}(ha:a≤4)(v:Int):v∈(pL p).take a↔∃c,c <a∧p c=v:=by
 have h:a=0∨a=1∨a=2∨a=3∨a=4:=by omega
 constructor
 ·intro hv
  rcases h with rfl|rfl|rfl|rfl|rfl<;>simp[pL] at hv
  ·exact⟨0,by omega,hv.symm⟩
  ·rcases hv with h|h;exact⟨0,by omega,h.symm⟩;exact⟨1,by omega,h.symm⟩
  ·rcases hv with h|h|h;exact⟨0,by omega,h.symm⟩;exact⟨1,by omega,h.symm⟩;exact⟨2,by omega,h.symm⟩
  rcases hv with h|h|h|h;exact⟨0,by omega,h.symm⟩;exact⟨1,by omega,h.symm⟩;exact⟨2,by omega,h.symm⟩;exact⟨3,by omega,h.symm⟩
 rintro⟨c,hc,rfl⟩
 have hc4:c=0∨c=1∨c=2∨c=3:=by omega
 rcases h with rfl|rfl|rfl|rfl|rfl<;>rcases hc4 with rfl|rfl|rfl|rfl<;>first|omega|simp[pL]
theorem Rj{p:Nat→Int}{a:Nat}{v:Int}(ha:a≤4):qN p a v=true↔∃c,c <a∧p c=v:=by
 simp only[qN,decide_eq_true_eq]
 rw[HQ]
 constructor
 ·rintro⟨x,hx,h⟩
  obtain⟨c,hc,e⟩:=(Wv p ha x).1 hx
  exact⟨c,hc,by rw[e];exact(of_decide_eq_true h).symm⟩
 rintro⟨c,hc,e⟩
 exact⟨v,(Wv p ha v).2 ⟨c,hc,e⟩,decide_eq_true rfl⟩
theorem tk{F:Nat→Nat→Bool}{R:(Nat→Int)→Bool}{na:Nat}:∀(n a:Nat) (p q:Nat→Int),a+n≤4→(q∈gF F R na n a p↔(∀c,c <a∨a+n≤c→q c=p c)∧(∀c,a≤c→c <a+n→q c=p c∨∃b,b <na∧F c b=true∧q c=(b:Int)+1∧∀d,d <c→q d≠(b:Int)+1)∧R q=true)
 |0,a,p,q,_=>by
  simp only[gF,Nat.add_zero]
  constructor
  ·intro h
   cases hr:R p
   ·rw[hr] at h;simp at h
   rw[hr] at h;simp at h;subst h;exact⟨fun _ _=>rfl,fun c h1 h2=>by omega,hr⟩
  rintro⟨h1,_,h3⟩
  have e:q=p:=funext fun c=>h1 c (by omega)
  subst e
  rw[h3];simp
 |n+1,a,p,q,han=>by
  simp only[gF,List.mem_append,List.mem_flatMap,List.mem_range]
  constructor
  ·rintro(h| ⟨b,hb,h⟩)
   ·obtain⟨h1,h2,h3⟩:=(tk n (a+1) p q (by omega)).1 h
    refine⟨fun c hc=>h1 c (by omega),fun c hc1 hc2=>?_,h3⟩
    by_cases e:c=a
    ·exact .inl (h1 c (by omega))
    exact h2 c (by omega) (by omega)
   cases hx: !F a b||qN p a ((b:Int)+1)
   ·rw[hx] at h
    simp only[cond_false] at h
    obtain⟨h1,h2,h3⟩:=(tk n (a+1) _ q (by omega)).1 h
    simp only[Bool.or_eq_false_iff,Bool.not_eq_false'] at hx
    have hp:∀c,c≠a→iF p a ((b:Int)+1) c=p c:=fun c hc=>by simp[iF,hc]
    refine⟨fun c hc=>by rw[h1 c (by omega),hp c (by omega)],fun c hc1 hc2=>?_,h3⟩
    by_cases e:c=a
    ·subst e
     have hq:q c=(b:Int)+1:=by rw[h1 c (by omega)];simp[iF]
     refine .inr ⟨b,hb,hx.1,hq,fun d hd hqd=>?_⟩
     have:qN p c ((b:Int)+1)=true:=(Rj (by omega)).2 ⟨d,hd,by rw[←hqd,h1 d (by omega),hp d (by omega)]⟩
     rw[hx.2] at this;cases this
    rcases h2 c (by omega) (by omega) with h|h
    ·exact .inl (by rw[h,hp c e])
    exact .inr h
   rw[hx] at h;simp at h
  rintro⟨h1,h2,h3⟩
  rcases h2 a (Nat.le_refl _) (by omega) with he| ⟨b,hb,hF,hq,hd⟩
  ·left
   exact(tk n (a+1) p q (by omega)).2 ⟨fun c hc=>by
    by_cases e:c=a
    ·rw[e];exact he
    exact h1 c (by omega),fun c hc1 hc2=>h2 c (by omega) (by omega),h3⟩
  right
  refine⟨b,hb,?_⟩
  have hx:(!F a b||qN p a ((b:Int)+1))=false:=by
   cases hh:qN p a ((b:Int)+1)
   ·simp[hF]
   obtain⟨c,hc,e⟩:=(Rj (by omega)).1 hh
   exact absurd (by rw[h1 c (by omega),e]) (hd c hc)
  rw[hx]
  simp only[cond_false]
  refine(tk n (a+1) _ q (by omega)).2 ⟨fun c hc=>?_,fun c hc1 hc2=>?_,h3⟩
  ·by_cases e:c=a
   ·rw[e,hq];simp[iF]
   rw[h1 c (by omega)];simp[iF,e]
  have:iF p a ((b:Int)+1) c=p c:=by simp[iF,show c≠a by omega]
  rw[this]
  exact h2 c (by omega) (by omega)
theorem jM(h:K.facts.length≤4)(hb:K.before.length≤4):q∈aN K (aR K)↔(∀c,q c=0∨(c <K.before.length∧∃b,b <K.after.length∧vu K c b=true∧q c=(b:Int)+1))∧(∀c d,d <c→q c=q d→q c=0)∧pw q K.facts=true:=by
 rw[aN,oQ h,tk _ _ _ _ (by omega)]
 constructor
 ·rintro⟨h1,h2,h3⟩
  have key:∀c,q c=0∨(c <K.before.length∧∃b,b <K.after.length∧vu K c b=true∧q c=(b:Int)+1∧∀d,d <c→q d≠(b:Int)+1):=fun c=>by
   by_cases hc:c <K.before.length
   ·rcases h2 c (Nat.zero_le _) (by omega) with e| ⟨b,h⟩
    ·exact .inl e
    exact .inr ⟨hc,b,h⟩
   exact .inl (h1 c (.inr (by omega)))
  refine⟨fun c=>?_,fun c d hd e=>?_,h3⟩
  ·rcases key c with e| ⟨hc,b,hb1,gu,UY,_⟩
   ·exact .inl e
   exact .inr ⟨hc,b,hb1,gu,UY⟩
  rcases key c with e2| ⟨hc,b,_,_,hq,eg⟩
  ·exact e2
  exact absurd (by rw[←e,hq]) (eg d hd)
 rintro⟨h1,h2,h3⟩
 refine⟨fun c hc=>?_,fun c _ hc=>?_,h3⟩
 ·rcases h1 c with e| ⟨hc2,_⟩
  ·exact e
  omega
 rcases h1 c with e| ⟨_,b,hb1,gu,hq⟩
 ·exact .inl e
 refine .inr ⟨b,hb1,gu,hq,fun d hd e=>?_⟩
 have:=h2 c d hd (by rw[hq,e])
 omega
def e8(zs:List ai)(a:Nat):Nat→List Int
 |0=>[]
 |k+1=>e8 zs a k++(bif zs.any (fun x=>decide (pI x a=(k:Int))) then [(k:Int)-1] else [])
theorem Bu(zs:List ai)(a:Nat):∀n,(e8 zs a n).length≤n
 |0=>Nat.le_refl _
 |n+1=>by
  have:=Bu zs a n
  rw[e8,List.length_append]
  cases zs.any (fun x=>decide (pI x a=(n:Int)))<;>simp<;>omega
theorem ar2{x:ai}{a:Nat}(h:a <4):nth (cy x) (0+1+(a:Int).toNat*1)=some (zI (pI x a)):=by
 rcases y8 h with rfl|rfl|rfl|rfl<;>rfl
def u3(a:Nat)(w:Int)(x:ai):Bool:=decide (pI x a=w+1)
theorem HR{p:ai→Bool}:∀(l:List ai) (k:Nat),decide (bP p l k≥0)=l.any p
 | [],k=>by simp[bP]
 |x::l,k=>by
  have ih:=HR (p:=p) l (k+1)
  simp only[bP,List.any_cons]
  by_cases h:p x=true
  ·simp only[h,cond_true,Bool.true_or];exact decide_eq_true (by omega)
  have h':p x=false:=by simpa using h
  simp only[h',cond_false,Bool.false_or];exact ih
theorem amM{x:ai}{a:Nat}{w:Int}{ro:Nat→Option Obj}(g1:ro p1=some (.cells ⟨[zI (a:Int)]⟩ 3 (0,0)))(g2:ro p2=some (.cells ⟨[zI w]⟩ 3 (0,0)))(ha:a <4)(hw: -1≤w∧w≤100):dz zT 47 [.agg ⟨[zI x.past,zI x.w0,zI x.w1,zI x.w2,zI x.w3,zI x.gone,zI x.new,zI x.af]⟩,zP p1,zP p2] ro (.bool (decide (pI x a=w+1))):=by
 refine bG av [] [] bh<|zD 2<|jn fun b3=>zD 4<|jl (b:=p1) (off:=0) (m:=1) (vs:=[zI (a:Int)]) 0 ⟨_,_,_,.inl g1,rfl⟩<|zD 1<|GY (b:=b3) (off:=1) (len:=4) (sz:=1) (a:Int) (by omega)<|mY (b:=b3) (off:=1+(a:Int).toNat*1) (m:=1) (vs:=[zI (pI x a)]) 0 [0] [(b3,.cells ⟨[zI x.past,zI x.w0,zI x.w1,zI x.w2,zI x.w3,zI x.gone,zI x.new,zI x.af]⟩ 115 (0,0))] (fun s _ hZ=>oI (hZ _ (.head _)) (ar2 ha))<|jl (b:=p2) (off:=0) (m:=1) (vs:=[zI w]) 0 ⟨_,_,_,.inl g2,rfl⟩<|ja (w+1) (by omega)<|zD 4<|aH q0 (.bool (decide ((pI x a)=(w+1)))) [] [] [] (Sub.refl _) ⟨_,_,rfl,rfl,rfl,rfl⟩
theorem amK{v:Value}{zs:List ai}{a:Nat}{w:Int}{ro:Nat→Option Obj}(hf:bH ro v 8 cy zs)(hn:zs.length≤100000)(g1:ro p1=some (.cells ⟨[zI (a:Int)]⟩ 3 (0,0)))(g2:ro p2=some (.cells ⟨[zI w]⟩ 3 (0,0)))(ha:a <4)(hw: -1≤w∧w≤100):dz zT 89 [v,.func (.func 47) ⟨[]⟩ ⟨[zP p1,zP p2]⟩] ro (zI (bP (u3 a w) zs 0)):=by
 obtain⟨lV,Cs,Cr,kA,rfl,Fs,v9,vZ⟩:=hf
 refine bG av [] [] bh<|zD 12<|ek [1,0,1,0,0] [] (fun(zz:Nat)=>[(0,.slice lV zs.length kA),(1,.func (.func 47) ⟨[]⟩ ⟨[zP p1,zP p2]⟩),(7,zI (zs.length:Int)),(8,zI (zz:Int))]) (fun(zz:Nat)=>[]) (fun(zz:Nat)=>zz≤zs.length∧bP (u3 a w) zs 0=bP (u3 a w) (zs.drop zz) zz) (fun(zz:Nat)=>zs.length-zz) 0 ⟨by omega,rfl⟩ [] ?_
 rintro k hI K1 bM rest
 refine zD 5<|zJ 9 ((k:Int) <(zs.length:Int)) (fun h1=>?_) fun h1=>?_
 ·
  refine zD 14 ?_
  obtain⟨eF,dK⟩:=zG zs k
  refine iM kA 8 v9 dK<|jl 0 (vZ _ _ dK)<|jp (vs:=[.agg ⟨[zI eF.past,zI eF.w0,zI eF.w1,zI eF.w2,zI eF.w3,zI eF.gone,zI eF.new,zI eF.af]⟩,zP p1,zP p2]) [] [] (fun aC hs hZ=>(amM (x:=eF) (hs _ _ g1) (hs _ _ g2) ha hw))<|zD 1<|js 16 (u3 a w eF) (fun h2=>?_) (fun h2=>?_)
  ·
   refine zD 7<|aH q0 (zI (k:Int)) [] [] [] (Sub.refl _) ⟨_,_,rfl,rfl,by rw[hI.2,gM dK,show u3 a w eF=true from (by assumption)];rfl,rfl⟩
  refine zD 3<|ja ((k:Int)+1) (by omega)<|zD 2<|bA bM (k+1) ⟨by omega,by rw[hI.2,gM dK,show u3 a w eF=false from (by assumption)];rfl⟩ (by omega) [] (Sub.refl _)
 refine zD 7<|aH q0 (zI (-1)) [] [] [] (Sub.refl _) ⟨_,_,rfl,rfl,by rw[hI.2,nn (by omega)],rfl⟩
theorem afq{v:Value}{zs:List ai}{a:Nat}{w:Int}{ro:Nat→Option Obj}(hf:bH ro v 8 cy zs)(hn:zs.length≤100000)(g1:ro p1=some (.cells ⟨[zI (a:Int)]⟩ 3 (0,0)))(g2:ro p2=some (.cells ⟨[zI w]⟩ 3 (0,0)))(ha:a <4)(hw: -1≤w∧w≤100):dz zT 46 [v,.func (.func 47) ⟨[]⟩ ⟨[zP p1,zP p2]⟩] ro (.bool (decide (bP (u3 a w) zs 0≥0))):=by
 obtain⟨lV,Cs,Cr,kA,rfl,Fs,v9,vZ⟩:=hf
 refine bG av [] [] bh<|zD 8<|jp (vs:=[.slice lV zs.length kA,.func (.func 47) ⟨[]⟩ ⟨[zP p1,zP p2]⟩]) [] [] (fun aC hs hZ=>amK ((show bH _ _ _ _ _ from ⟨lV,Cs,Cr,kA,rfl,Fs,v9,vZ⟩).up hs) hn (hs _ _ g1) (hs _ _ g2) ha hw)<|zD 4<|aH q0 (.bool (decide ((bP (u3 a w) zs 0)≥0))) [] [] [] (Sub.refl _) ⟨_,_,rfl,rfl,rfl,rfl⟩
theorem aa8{zs:List ai}{a k:Nat}{c:Bool}(h:decide (bP (u3 a ((k:Int)-1)) zs 0≥0)=c):e8 zs a (k+1)=e8 zs a k++(bif c then [(k:Int)-1] else []):=by
 rw[HR] at h
 rw[e8,←h]
 congr 2
 refine congrArg zs.any (funext fun x=>?_)
 simp only[u3]
 exact decide_eq_decide.2 (by omega)
theorem HS{zs:List ai}{a:Nat}{w:Int}{c:Bool}(hw: -1≤w)(h:decide (bP (u3 a w) zs 0≥0)=c):e8 zs a (w+1+1).toNat=e8 zs a (w+1).toNat++(bif c then [w] else []):=by
 obtain⟨k,rfl⟩:∃k:Nat,w=(k:Int)-1:=⟨(w+1).toNat,by omega⟩
 rw[show ((k:Int)-1+1+1).toNat=k+1 by omega,show ((k:Int)-1+1).toNat=k by omega]
 exact aa8 h
theorem RU{a:Nat}:∀n,e8 [] a n=[]
 |0=>rfl
 |n+1=>by rw[e8,RU n];rfl
theorem ap2{rows:List bE}{a:Nat}{ro:Nat→Option Obj}(hK:fU ro l K)(hV:eZ K)(hR:rows.length≤2)(hB:ir ro l K rows)(BX:a <K.before.length):B1 zT 11 [.agg ⟨l⟩,zI (a:Int)] ro [] (fun r Y=>∃zs v e,zs.Perm (cJ K (aR K) (bZ K.gone K.new K.af) rows)∧r= .tuple ⟨[v,zI e]⟩∧((zs=[]∧e=9)∨(zs≠[]∧e=0))∧az v 1 3 cq (e8 zs a (K.after.length+1)) Y):=by
 obtain⟨v0,v1,v3,v4,v5,v6,v7,vb,fa,fc,hv,rfl,_,_,_,_,_,hb,ha,_⟩:=id hK
 obtain⟨pz,SL,SJ,oZ,rfl,SK,MQ,MP⟩:=hb
 obtain⟨pE,SO,SM,pd,rfl,SN,PO,PN⟩:=ha
 have Ai:=hV.before.1
 have Ed:=hV.after.1
 refine za av [] [] bh fun fr=>zD 2<|jn fun b2=>jn fun b3=>jd 6 [1]<|jc (vs:=[.agg ⟨[v0,v1,.slice fa 0 fc,v3,v4,v5,.slice pz K.before.length oZ,.slice pE K.after.length pd,zI K.gone,zI K.new,zI K.af,vb]⟩]) [] (hB _ (Sub.refl _)) ?_
 rintro _ Y13 ⟨f13,rfl,awK⟩
 refine zD 5<|jf [0] Y13 (fun yn bB iN=>?_)
 have Db:=awK _ bB iN
 refine jd 16 [0,1]<|ja ((K.before.length:Int)-1) (by omega)<|jp (vs:=[zI (a:Int),zI 0,zI ((K.before.length:Int)-1)]) [] [] (fun aC hs hZ=>eR)<|zD 3<|js 20 (!(iC (a:Int) 0 ((K.before.length:Int)-1))) (fun h4=>?_) (fun h4=>?_)
 ·
  try simp only[zB] at h4
  exfalso;simp only[iC,Bool.and_eq_false_iff,decide_eq_false_iff_not] at h4;omega
 try simp only[zB] at h4
 refine zD 5<|KZ (vs:=[zP f13]) [] (fun _ _ h=>h) (Nh Db hV hR) ?_
 rintro _ Y30 ⟨zs,v30,e30,rfl,hz,wI,he⟩
 have Jr:∀x∈zs,(-4≤x.gone∧x.gone≤4)∧(-4≤x.new∧x.new≤4)∧(0≤x.af∧x.af≤4):=fun x hx=>by obtain⟨i,r,p,_,_,rfl,_⟩:=eS (hz.mem_iff.1 hx);exact kU hV r i p
 have Up:zs.length≤1250:=by rw[hz.length_eq];exact lL hV _ _ hR
 have hpr:∀x∈zs,∀q,0≤pI x q∧pI x q≤4:=fun x hx=>by obtain⟨i,r,p,_,hp,rfl,_⟩:=eS (hz.mem_iff.1 hx);exact xJ ((gx hV _).2 p hp)
 refine zD 5<|jf [0] Y30 (fun ro7 hs5 hk6=>?_)
 have U1:=wI.kJ hk6
 obtain⟨mT,Cv,Ct,lX,rfl,Cu,yW,yV⟩:=U1
 refine zD 7<|js 34 (!decide (e30=0)) (fun h8=>?_) (fun h8=>?_)
 ·
  replace h8:=of_decide_eq_false (by simpa using h8)
  have pe:zs=[]∧e30=9:=by rcases he with h| ⟨_,h⟩;exact h;omega
  refine zD 8<|II qC.a.a (.tuple ⟨[zS,zI e30]⟩) [2] [] (bB.trans hs5) ⟨zs,_,_,hz,rfl,.inl ⟨pe.1,pe.2⟩,by rw[pe.1,RU];exact az.nil _ _ _⟩
 replace h8:=of_decide_eq_true (by simpa using h8)
 have pe:zs≠[]∧e30=0:=by rcases he with ⟨_,h⟩|h;omega;exact h
 refine zD 9<|jn fun iK=>jd 3 [0]<|oL<|ek [1,1,1,1,1,1,0,1,0,0] [] (fun(zz:Int×Nat×Value×Cells)=>[(2,zP b2),(3,zP b3),(4,zS),(5,zI 0),(8,.slice mT zs.length lX),(9,zz.2.2.1),(10,zP zz.2.1)]) (fun(zz:Int×Nat×Value×Cells)=>[.b zz.2.1 (.cells ⟨[zI zz.1]⟩ 3 (0,0)),.l zz.2.2.2,.b b3 (.cells ⟨[zI (a:Int)]⟩ 3 (0,0)),.b b2 (.cells ⟨[v0,v1,.slice fa 0 fc,v3,v4,v5,.slice pz K.before.length oZ,.slice pE K.after.length pd,zI K.gone,zI K.new,zI K.af,vb]⟩ 40 (0,0)),.l fr]) (fun(zz:Int×Nat×Value×Cells)=>(-1≤zz.1∧zz.1≤K.after.length)∧az zz.2.2.1 1 3 cq (e8 zs a (zz.1+1).toNat) zz.2.2.2) (fun(zz:Int×Nat×Value×Cells)=>((K.after.length:Int)-zz.1).toNat) (⟨(-1),iK,zS,[]⟩) ⟨by dsimp only;omega,az.nil _ _ _⟩ [1,0,2,3,4] ?_
 rintro⟨w,bx,vO,LO⟩ hI K1 bM rest
 dsimp only at hI
 have uZ:=Bu zs a (w+1).toNat
 refine jd 9 [0,3]<|zJ 40 (w <(K.after.length:Int)) (fun h9=>?_) fun h9=>?_
 ·
  refine zD 8<|jp (vs:=[.slice mT zs.length lX,.func (.func 47) ⟨[]⟩ ⟨[zP b3,zP bx]⟩]) [2,0] ((b3,.cells ⟨[zI (a:Int)]⟩ 3 (0,0))::[(bx,.cells ⟨[zI w]⟩ 3 (0,0))]) (fun aC hs hZ=>afq (a:=a) ((show bH _ _ _ _ _ from ⟨mT,Cv,Ct,lX,rfl,Cu,yW,yV⟩).up hs) (by omega) hZ.head hZ.tail.head (by omega) (by omega))<|zD 1<|js 45 (decide (bP (u3 a w) zs 0≥0)) (fun FG=>?_) (fun FG=>?_)
  ·
   refine jd 4 [0]<|jn fun b48=>jT (sz:=1) (ps:=(e8 zs a (w+1).toNat)) (qs:=[w]) (enc:=cq) (w:= .slice (some ⟨b48,0,none⟩) 1 1) [2] [0] [(b48,.cells ⟨([w].map cq).flatten⟩ 3 (0,0))] (hI.2) (fun s _ hZ=>bN [w] (hZ _ (.head _)) (by intro p hp;rfl)) (fun p _=>ar rfl) (by simp only[List.length_cons,List.length_nil];omega) (fun v49 L49 qJ=>?_)
   obtain⟨O1,OY,Ny⟩:=qJ.form
   subst Ny
   refine jd 8 [2]<|jn fun iK=>jd 4 [0,0]<|ja (w+1) (by omega)<|jd 2 [0]<|bA bM (⟨w+1,iK,(.slice O1 (((e8 zs a (w+1).toNat)++[w])).length OY),L49⟩) ⟨by dsimp only;omega,by dsimp only;rw[HS hI.1.1 (by assumption)];exact qJ⟩ (by dsimp only;omega) [0,1,4,5,6] (Sub.refl _)
  refine jd 8 [0]<|jn fun iK=>jd 4 [0,0]<|ja (w+1) (by omega)<|jd 2 [0]<|bA bM (⟨w+1,iK,vO,LO⟩) ⟨by dsimp only;omega,by dsimp only;rw[HS hI.1.1 (by assumption)];simpa using hI.2⟩ (by dsimp only;omega) [0,2,3,4,5] (Sub.refl _)
 refine zD 9<|II qC.a.a (.tuple ⟨[vO,zI 0]⟩) [1,4] LO (bB.trans hs5) ⟨zs,_,_,hz,rfl,.inr ⟨pe.1,rfl⟩,by have:=hI.2;rwa[show (w+1).toNat=K.after.length+1 by omega] at this⟩
theorem Sr{p:α→Bool}{l m:List α}(h:l.Perm m):l.any p=m.any p:=by
 cases hm:m.any p
 ·exact List.any_eq_false.2 fun x hx=>by have:=List.any_eq_false.1 hm x (h.mem_iff.1 hx);exact this
 obtain⟨x,hx,e⟩:=List.any_eq_true.1 hm
 exact List.any_eq_true.2 ⟨x,h.mem_iff.2 hx,e⟩
theorem Di{zs ys:List ai}(h:zs.Perm ys)(a:Nat):∀n,e8 zs a n=e8 ys a n
 |0=>rfl
 |n+1=>by rw[e8,e8,Di h a n,Sr h]
theorem AT(p:Nat→Int):qy (pL p)=(if p 0>0 then 1 else 0)+(if p 1>0 then 1 else 0)+(if p 2>0 then 1 else 0)+(if p 3>0 then 1 else 0):=by
 simp only[qy,pL,List.filter_cons,List.filter_nil,decide_eq_true_eq]
 split<;>split<;>split<;>split<;>simp
def F5(i j c:Nat):Nat:=if c=i then j else if c=j then i else c
theorem ade(i j c:Nat):F5 i j (F5 i j c)=c:=by
 simp only[F5]
 split<;>split<;>first|omega|simp_all
theorem swN_e{F:Nat→α}(h:F i=F j)(c:Nat):F (F5 i j c)=F c:=by
 simp only[F5]
 by_cases h1:c=i
 ·rw[if_pos h1,h1,h]
 rw[if_neg h1]
 by_cases h2:c=j
 ·rw[if_pos h2,h2,h]
 rw[if_neg h2]
theorem adb(hi:i <4)(hj:j <4)(F:Nat→Int):F (F5 i j 0)+F (F5 i j 1)+F (F5 i j 2)+F (F5 i j 3)=F 0+F 1+F 2+F 3:=by
 rcases y8 hi with rfl|rfl|rfl|rfl<;>rcases y8 hj with rfl|rfl|rfl|rfl<;>simp[F5]<;>omega
theorem Qq(r:bE)(q:Nat→Int):wu r q 4=(bif decide (q 0>0)&& !r.c 0 (q 0-1).toNat then 1 else 0)+(bif decide (q 1>0)&& !r.c 1 (q 1-1).toNat then 1 else 0)+(bif decide (q 2>0)&& !r.c 2 (q 2-1).toNat then 1 else 0)+(bif decide (q 3>0)&& !r.c 3 (q 3-1).toNat then 1 else 0):=by
 simp only[wu,Int.zero_add]
theorem aso{r:bE}(hi:i <4)(hj:j <4)(hr:∀b,r.c i b=r.c j b):wu r (fun c=>q (F5 i j c)) 4=wu r q 4:=by
 have e:∀c b,r.c c b=r.c (F5 i j c) b:=fun c b=>(swN_e (F:=fun c=>r.c c b) (hr b) c).symm
 rw[Qq,Qq,←adb hi hj fun c=>bif decide (q c>0)&& !r.c c (q c-1).toNat then 1 else 0]
 simp only[←e]
theorem asq(hi:i <4)(hj:j <4):qy (pL fun c=>q (F5 i j c))=qy (pL q):=by
 rw[AT,AT]
 exact adb hi hj fun c=>if q c>0 then 1 else 0
theorem asp(hf:K.facts=[])(hb:K.before.length≤4)(hi:i <K.before.length)(hj:j <K.before.length)(he:K.before[i]?=K.before[j]?) (hq:q∈aN K (aR K)):(fun c=>q (F5 i j c))∈aN K (aR K):=by
 have hf4:K.facts.length≤4:=by rw[hf];exact Nat.zero_le _
 obtain⟨h1,h2,_⟩:=(jM hf4 hb).1 hq
 refine(jM hf4 hb).2 ⟨fun c=>?_,fun c d hd e=>?_,by rw[hf];rfl⟩
 ·rcases h1 (F5 i j c) with e| ⟨hc,b,E1,nG,e⟩
  ·exact .inl e
  refine .inr ⟨?_,b,E1,?_,e⟩
  ·simp only[F5] at hc
   split at hc
   ·omega
   split at hc<;>omega
  rw[←nG]
  have:K.before[c]?=K.before[F5 i j c]?:=(swN_e (F:=fun c=>K.before[c]?) he c).symm
  simp only[vu,this,u9,hf,List.any_nil]
 have eg:F5 i j c≠F5 i j d:=fun e2=>by
  have:=congrArg (F5 i j) e2
  rw[ade,ade] at this
  omega
 rcases Nat.lt_or_gt_of_ne eg with h|h
 ·have:=h2 _ _ h e.symm
  exact e.trans this
 exact h2 _ _ h e
theorem LX(hf:K.facts=[])(hb:K.before.length≤4)(hi:i <K.before.length)(hj:j <K.before.length)(he:K.before[i]?=K.before[j]?) {x:ai} (hx:x∈cJ K (aR K) (bZ K.gone K.new K.af) (dq K)):∃y∈cJ K (aR K) (bZ K.gone K.new K.af) (dq K),pI y i=pI x j∧pI y j=pI x i:=by
 obtain⟨n,r,q,hr,hq,rfl,hk⟩:=eS hx
 have hrw:∀b,r.c i b=r.c j b:=fun b=>by
  rw[dq,List.getElem?_map] at hr
  cases hw:(WW K)[n]? with
  |none=>rw[hw] at hr;cases hr
  |some w=>
   rw[hw] at hr
   simp only[Option.map_some,Option.some.injEq] at hr
   subst hr
   simp only[kN,he]
 have Eb:=asp hf hb hi hj he hq
 refine⟨cu K r n fun c=>q (F5 i j c),?_,?_,?_⟩
 ·refine List.mem_flatten.2 ⟨_,List.mem_map.2 ⟨n,List.mem_range.2 (List.getElem?_eq_some_iff.1 hr).1,rfl⟩,?_⟩
  simp only[hr,Option.getD_some,mP]
  refine List.mem_filter.2 ⟨List.mem_map_of_mem Eb,?_⟩
  simp only[bZ,cu,aso (show i <4 by omega) (show j <4 by omega) hrw,asq (show i <4 by omega) (show j <4 by omega)] at hk ⊢
  exact hk
 ·rw[kS (by omega),kS (by omega)]
  simp only[F5,if_true]
 rw[kS (by omega),kS (by omega)]
 simp only[F5]
 by_cases h:j=i
 ·rw[if_pos h,h]
 simp only[if_neg h,if_true]
theorem LY(hf:K.facts=[])(hb:K.before.length≤4)(hi:i <K.before.length)(hj:j <K.before.length)(he:K.before[i]?=K.before[j]?):∀n,e8 (cJ K (aR K) (bZ K.gone K.new K.af) (dq K)) i n=e8 (cJ K (aR K) (bZ K.gone K.new K.af) (dq K)) j n
 |0=>rfl
 |n+1=>by
  rw[e8,e8,LY hf hb hi hj he n]
  congr 2
  rw[Bool.eq_iff_iff,List.any_eq_true,List.any_eq_true]
  constructor
  ·rintro⟨x,hx,h⟩
   obtain⟨y,hy,h1,h2⟩:=LX hf hb hi hj he hx
   exact⟨y,hy,by rw[h2];exact h⟩
  rintro⟨x,hx,h⟩
  obtain⟨y,hy,h1,h2⟩:=LX hf hb hi hj he hx
  exact⟨y,hy,by rw[h1];exact h⟩
abbrev Ey(K:aE)(x:aj):aE:={K with before:=K.before++[x]}
theorem acP{p:aj}(hx:x∈K.before)(hp:p∈K.before++[x]):p∈K.before:=by
 rcases List.mem_append.1 hp with h|h
 ·exact h
 rw[List.mem_singleton.1 h];exact hx
theorem ko.tw(h:ko K)(h3:K.before.length≤3)(hx:x∈K.before)(hf:K.facts=[]):ko (Ey K x):=
 ⟨h.qx,h.ways,h.dH,h.rules,⟨by show (K.before++[x]).length≤4;simp;omega,fun p hp=>h.before.2 p (acP hx hp)⟩,h.after,h.uu,⟨h.facts.1,by show ∀x∈K.facts,_;rw[hf];exact fun _ h=>by cases h⟩,h.apart⟩
theorem eZ.tw(h:eZ K)(h3:K.before.length≤3)(hx:x∈K.before)(hf:K.facts=[]):eZ (Ey K x):=
 ⟨h.rules,⟨by show (K.before++[x]).length≤4;simp;omega,fun p hp=>h.before.2 p (acP hx hp)⟩,h.after,h.dH,⟨h.facts.1,by show ∀x∈K.facts,_;rw[hf];exact fun _ h=>by cases h⟩⟩
def ar5:=(lB Tryz.typeInfo9 Tryz.underlying9 rfl rfl rfl rfl rfl rfl:TF zT 9 _ 1 16 _ false)
def ar6:=(lB Tryz.typeInfo4 Tryz.underlying4 rfl rfl rfl rfl rfl rfl:TF zT 4 _ 1 1 _ false)
theorem aHX(a:ByteArray)(b c d:Int)(e:Bool)(a':ByteArray)(b' c' d':Int)(e':Bool):EqV zT 44 (.agg ⟨[.string a,zI b,zI c,zI d,.bool e]⟩) (.agg ⟨[.string a',zI b',zI c',zI d',.bool e']⟩) (a==a'&&(b==b'&&(c==c'&&(d==d'&&(e==e'&&true))))):=
 HY (qW (dep:=9999) (lB Tryz.typeInfo44 Tryz.underlying44 rfl rfl rfl rfl rfl rfl) Tryz.stoodInHeld44 (.cons (by decide) (fE ar5 rfl) (fE ar5 rfl) (an6 ar5 _ _) (.cons (by decide) (fE jH rfl) (fE jH rfl) (k7 jH _ _) (.cons (by decide) (fE jH rfl) (fE jH rfl) (k7 jH _ _) (.cons (by decide) (fE jH rfl) (fE jH rfl) (k7 jH _ _) (.cons (by decide) (fE ar6 rfl) (fE ar6 rfl) (ai6 ar6 _ _) .nil))))))
theorem aQl:ny zT 44:=Tryz.eqGuardType44
theorem eqP{y:aj}(h:(!(x.name==y.name&&(x.st==y.st&&(x.no==y.no&&(x.head==y.head&&(x.bold==y.bold&&true))))))=false):x=y:=by
 rcases x with ⟨a,b,c,d,e⟩;rcases y with ⟨a',b',c',d',e'⟩
 simp only[Bool.not_eq_false',Bool.and_true,Bool.and_eq_true,beq_iff_eq] at h
 obtain⟨rfl,rfl,rfl,rfl,rfl⟩:=h
 rfl
abbrev ax3(K:aE)(bs:List aj):aE:={K with before:=bs}
set_option maxHeartbeats 2000000 in
theorem aH7 {d:Nat} {X:Cells} {np nf:Int} {ro:Nat→Option Obj} (hN:Dn ro vd xs) (hD:aW vd xs d X) (hnp:0≤np∧np≤4) (hnf:nf=0):FnG zT 8 [zP d,zI np,zI nf] ro X (fun r aC Y=>∃(K:aE) (v0 v1 v3 v4 v5 v6 v7 vb:Value) (fa:Option Addr) (fc:Nat) (LB X':Cells),r= .agg ⟨[v0,v1,.slice fa 0 fc,v3,v4,v5,v6,v7,zI K.gone,zI K.new,zI K.af,vb]⟩∧LZ K∧K.facts=[]∧(K.before.length:Int)≤np∧(∀v∈[v0,v1,v3,v4,v5,v6,v7,vb],single v=true)∧az v6 5 44 cU K.before LB∧(∀kK,Sub aC kK→∀(vB:Value) (bs:List aj),bH kK vB 5 cU bs→fU kK [v0,v1,.slice fa 0 fc,v3,v4,v5,vB,v7,zI K.gone,zI K.new,zI K.af,vb] (ax3 K bs))∧Y=LB++X'∧aW vd xs d X'):=by
 refine aub (hm:=av) [.l X] [] bh<|zD 2<|jn fun b6=>zD 4<|jc [1] (YB hN hD) ?_
 rintro _ _ ⟨ei,dV,zo,acB,aMs,Z18,X18,rfl,qO,n8,awp,rfl,Hz⟩
 refine jg 0 [.l Z18,.l X18]<|jf [0] Z18 (fun yn bB iN=>?_)
 have p7:=awp _ iN
 obtain⟨hc,hh,dk⟩:=id p7
 obtain⟨dj,AP,AO,de,rfl,DW,yU,yT⟩:=hc
 obtain⟨cK,sr,sq,cA,rfl,tN,py,px⟩:=hh
 refine zD 2<|jn fun b21=>zD 2<|jn fun mh=>jn fun dA=>zD 3<|jn fun b7=>jd 5 [0]<|jf [1,2,3] ((dA,.cells ⟨[.slice (some ⟨b21,0,none⟩) 2 2,.slice (some ⟨mh,0,none⟩) 2 2]⟩ 74 (0,0))::((mh,.cells ⟨[zI 1,zI 0,zI 3,zI 0]⟩ 73 (0,0))::[(b21,.cells ⟨[zI 1,zI 0,zI 2,zI 0]⟩ 73 (0,0))])) (fun ro6 fA OF=>?_)
 have anJ:=Gb (OF _ (.tail _ (.tail _ (.head _)))) (OF _ (.tail _ (.head _))) (OF _ (.head _))
 refine zD 1<|jc (vs:=[zP d,zI 2]) [1] (nq (hN.up (bB.trans fA)) Hz (by omega)) ?_
 rintro _ X30 ⟨w30,rfl,ahO⟩
 refine zD 1<|A6 [1,1,1] [] (fun(zz:Value×Cells×(List (List aF))×Cells)=>[(0,zP d),(1,zI np),(2,zI nf),(6,zP b6),(7,zP b7)]) (fun(zz:Value×Cells×(List (List aF))×Cells)=>[.l zz.2.1,.l zz.2.2.2,.b b7 (.cells ⟨[.slice (some ⟨dA,0,none⟩) 2 2,zz.1,zS,.slice dj ei.length de,.slice cK dV.length cA,zS,zS,zS,zI 0,zI 0,zI 0,zS]⟩ 40 (0,0)),.b b6 (.cells ⟨zO⟩ 40 (0,0))]) (fun(zz:Value×Cells×(List (List aF))×Cells)=>(∀kK,Knows kK zz.2.1→nv kK zz.1 zz.2.2.1)∧(zz.2.2.1.length≤1∧∀l∈zz.2.2.1,(1≤l.length∧l.length≤2)∧∀c∈l,iY c)∧aW vd xs d zz.2.2.2) ?_ (fun K1 bM=>?_)
 ·
  rintro⟨vT,LT,ways,X⟩ JA rest
  dsimp only at JA
  refine zD 2<|jf [0] LT (fun ro9 iS hk8=>?_)
  have aaU:=JA.1 _ hk8
  obtain⟨Aw,ht,_⟩:=id aaU
  obtain⟨eG,AN,AK,dR,rfl,AM,s9,s8⟩:=ht
  refine zD 1<|jc (vs:=[zP d,zI 2]) [0] (ajh (hN.up ((bB.trans fA).trans iS)) JA.2.2 (by decide)) ?_
  rintro v60 _ ⟨ud,L60,X60,wH,aSM,UE,rfl,awP⟩
  refine jg 0 [.l L60,.l X60]<|zD 8<|oL<|ek [1,1,1,1,0,1,0,0] [] (fun(zz:Nat×Value×Cells×(List cb))=>[(0,zP d),(1,zI np),(2,zI nf),(6,zP b6),(7,zP b7),(8,v60),(9,zI (zz.1:Int))]) (fun(zz:Nat×Value×Cells×(List cb))=>[.l zz.2.2.1,.l X60,.b b7 (.cells ⟨[.slice (some ⟨dA,0,none⟩) 2 2,.slice eG Aw.length dR,zS,.slice dj ei.length de,.slice cK dV.length cA,zz.2.1,zS,zS,zI 0,zI 0,zI 0,zS]⟩ 40 (0,0)),.l L60,.b b6 (.cells ⟨zO⟩ 40 (0,0))]) (fun(zz:Nat×Value×Cells×(List cb))=>(zz.1≤ud.length∧zz.2.2.2.length≤zz.1)∧az zz.2.1 2 84 iV zz.2.2.2 zz.2.2.1∧∀r∈zz.2.2.2,DD r) (fun(zz:Nat×Value×Cells×(List cb))=>ud.length-zz.1) (⟨0,zS,[],[]⟩) ⟨by simp,az.nil _ _ _,(fun _ h=>by cases h)⟩ [0,2,3,1,4] ?_
  rintro⟨i,vR,LR,rs⟩ hR K2 lI rest
  dsimp only at hR
  refine zD 5<|A5 wH<|zD 2<|zJ 64 ((i:Int) <(ud.length:Int)) (fun FG=>?_) fun FG=>?_
  ·
   refine zD 8 ?_
   obtain⟨OP,Nm⟩:=zG ud i
   refine QE 2 wH Nm fun b69 ahd=>zD 1<|mY 0 [3] L60 (fun s _ hZ=>bU wH ahd hZ Nm)<|zD 2 ?_
   obtain⟨x74,afF⟩:=zG ud i
   refine QE 2 wH afF fun b74 awg=>zD 1<|mY 1 [3] L60 (fun s _ hZ=>bU wH awg hZ afF)<|zD 2<|js 77 (!(cO OP.f x74.t)) (fun HG=>?_) (fun HG=>?_)
   ·
    try simp only[zB] at HG
    refine jd 6 [2] ?_
    obtain⟨vG,G2⟩:=zG ud i
    refine QE 2 wH G2 fun b82 awf=>mY 0 [3] L60 (fun s _ hZ=>bU wH awf hZ G2)<|aM 6 fun rZ r8 p8=>jn fun b84=>bI p8 [1,2,3,4,5]<|aM 7 fun sL sR rn=>jT (sz:=2) (ps:=rs) (qs:=[(⟨vG.f,vG.t⟩:cb)]) (enc:=iV) (w:= .slice (some ⟨b84,0,none⟩) 1 1) [1] [0] [(b84,.cells ⟨([(⟨vG.f,vG.t⟩:cb)].map iV).flatten⟩ 84 (0,0))] (hR.2.1) (fun s _ hZ=>bN [(⟨vG.f,vG.t⟩:cb)] (hZ _ (.head _)) (by intro p hp;rfl)) (fun p _=>ar rfl) (by simp<;>omega) (fun v85 L85 Hb=>?_)
    obtain⟨arM,arC,avP⟩:=Hb.form
    subst avP
    refine gY rn []<|zD 1<|aM 9 fun B2 Ca C8=>jd 1 [3]<|eo C8<|zD 3<|ja ((i:Int)+1) (by omega)<|zD 2<|bA lI (⟨i+1,(.slice arM ((rs++[(⟨vG.f,vG.t⟩:cb)])).length arC),L85,(rs++[(⟨vG.f,vG.t⟩:cb)])⟩) ⟨by simp only[List.length_append,List.length_cons,List.length_nil];omega,Hb,lK hR.2.2 (UE _ (List.mem_of_getElem? G2))⟩ (by omega) [0,2,3,4,5] (Sub.refl _)
   try simp only[zB] at HG
   refine zD 4<|ja ((i:Int)+1) (by omega)<|zD 2<|bA lI (⟨i+1,vR,LR,rs⟩) ⟨by dsimp only;omega,hR.2⟩ (by omega) [0,1,2,3,4] (Sub.refl _)
  refine zD 4<|jf [0] LR (fun aOU cX avD=>?_)
  have hRU:=hR.2.1.kJ avD
  refine jd 3 [1]<|jn fun iK=>jd 7 [0]<|jc (vs:=[zP d,zI np]) [1] (xQ (hN.up (((bB.trans fA).trans iS).trans cX)) awP (by omega)) ?_
  rintro _ X92 ⟨w92,rfl,aRm,aRi,awO⟩
  refine zD 3<|oL<|ek [1,1,1,1,1,1,0,1,0,0] [] (fun(zz:Int×Value×Cells×(List aj)×Cells)=>[(0,zP d),(1,zI np),(2,zI nf),(6,zP b6),(7,zP b7),(10,zP iK),(11,zI zz.1)]) (fun(zz:Int×Value×Cells×(List aj)×Cells)=>[.l zz.2.2.1,.l zz.2.2.2.2,.b iK (.cells ⟨[zI 2,zI 0,zI 0,.slice dj ei.length de,.slice cK dV.length cA,zS,zS]⟩ 86 (0,0)),.b b7 (.cells ⟨[.slice (some ⟨dA,0,none⟩) 2 2,.slice eG Aw.length dR,zS,.slice dj ei.length de,.slice cK dV.length cA,vR,zz.2.1,zS,zI 0,zI 0,zI 0,zS]⟩ 40 (0,0)),.b b6 (.cells ⟨zO⟩ 40 (0,0))]) (fun(zz:Int×Value×Cells×(List aj)×Cells)=>(0≤zz.1∧zz.2.2.2.1.length+zz.1≤np)∧az zz.2.1 5 44 cU zz.2.2.2.1 zz.2.2.1∧(∀p∈zz.2.2.2.1,Sx zo p)∧aW vd xs d zz.2.2.2.2) (fun(zz:Int×Value×Cells×(List aj)×Cells)=>zz.1.toNat) (⟨w92,zS,[],[],X92⟩) ⟨by simp only[List.length_nil];omega,az.nil _ _ _,(fun _ h=>by cases h),awO⟩ [0,1,2,3,5] ?_
  rintro⟨j,vB,LB,nC,X⟩ hB K6 hK6 rest
  dsimp only at hB
  refine zD 6<|zJ 94 (j>0) (fun Ru=>?_) fun Ru=>?_
  ·
   refine zD 5<|A6 [1,1,1,1,1,1,0,1,0,0,1,0,0,1] [K6] (fun(zz:Nat×aj×Cells)=>[(0,zP d),(1,zI np),(2,zI nf),(6,zP b6),(7,zP b7),(10,zP iK),(11,zI j),(12,zP zz.1)]) (fun(zz:Nat×aj×Cells)=>[.b zz.1 (.cells ⟨[.string zz.2.1.name,zI zz.2.1.st,zI zz.2.1.no,zI zz.2.1.head,.bool zz.2.1.bold]⟩ 44 (0,0)),.l LB,.l zz.2.2,.b iK (.cells ⟨[zI 2,zI 0,zI 0,.slice dj ei.length de,.slice cK dV.length cA,zS,zS]⟩ 86 (0,0)),.b b7 (.cells ⟨[.slice (some ⟨dA,0,none⟩) 2 2,.slice eG Aw.length dR,zS,.slice dj ei.length de,.slice cK dV.length cA,vR,vB,zS,zI 0,zI 0,zI 0,zS]⟩ 40 (0,0)),.b b6 (.cells ⟨zO⟩ 40 (0,0))]) (fun(zz:Nat×aj×Cells)=>(DF zz.2.1.name∧mi zo zz.2.1.head∧(0≤zz.2.1.st∧zz.2.1.st≤1))∧aW vd xs d zz.2.2) ?_ (fun K7 Yk=>?_)
   ·
    rintro⟨iD,pp,X⟩ Hx rest
    dsimp only at Hx
    refine zD 3<|jc (vs:=[zP d,zI 1,zI 2]) [2] (u4 (hN.up (((bB.trans fA).trans iS).trans cX)) Hx.2 (by omega) (by omega)) ?_
    rintro _ axU ⟨arA,rfl,aDe,aC2,Rt⟩
    refine jd 10 [1,1]<|A6 [1,1,1,1,1,1,0,1,0,0,1,0,0,1,1,1] [K6] (fun(zz:Int×Cells)=>[(0,zP d),(1,zI np),(2,zI nf),(6,zP b6),(7,zP b7),(10,zP iK),(11,zI j),(12,zP iD)]) (fun(zz:Int×Cells)=>[.b iD (.cells ⟨[.string pp.name,zI pp.st,zI zz.1,zI pp.head,.bool pp.bold]⟩ 44 (0,0)),.l LB,.l zz.2,.b iK (.cells ⟨[zI 2,zI 0,zI 0,.slice dj ei.length de,.slice cK dV.length cA,zS,zS]⟩ 86 (0,0)),.b b7 (.cells ⟨[.slice (some ⟨dA,0,none⟩) 2 2,.slice eG Aw.length dR,zS,.slice dj ei.length de,.slice cK dV.length cA,vR,vB,zS,zI 0,zI 0,zI 0,zS]⟩ 40 (0,0)),.b b6 (.cells ⟨zO⟩ 40 (0,0))]) (fun(zz:Int×Cells)=>((pp.st=0→zz.1=1∨zz.1=2)∧(pp.st=1→zz.1=1∨zz.1=3))∧aW vd xs d zz.2) ?_ (fun K8 hK8=>?_)
    ·
     rintro⟨q,X⟩ NK rest
     dsimp only at NK
     refine jd 7 [0]<|A6 [1,1,1,1,1,1,0,1,0,0,1,0,0,1,1,1,1,0,1] [K6] (fun(zz:Bool×Cells)=>[(0,zP d),(1,zI np),(2,zI nf),(6,zP b6),(7,zP b7),(10,zP iK),(11,zI j),(12,zP iD),(120,.bool zz.1)]) (fun(zz:Bool×Cells)=>[.b iD (.cells ⟨[.string pp.name,zI pp.st,zI q,zI pp.head,.bool false]⟩ 44 (0,0)),.l LB,.l zz.2,.b iK (.cells ⟨[zI 2,zI 0,zI 0,.slice dj ei.length de,.slice cK dV.length cA,zS,zS]⟩ 86 (0,0)),.b b7 (.cells ⟨[.slice (some ⟨dA,0,none⟩) 2 2,.slice eG Aw.length dR,zS,.slice dj ei.length de,.slice cK dV.length cA,vR,vB,zS,zI 0,zI 0,zI 0,zS]⟩ 40 (0,0)),.b b6 (.cells ⟨zO⟩ 40 (0,0))]) (fun(zz:Bool×Cells)=>(zz.1=true→0 <nC.length)∧aW vd xs d zz.2) ?_ (fun K9 hK9=>?_)
     ·
      rintro⟨g,X⟩ Hw rest
      dsimp only at Hw
      refine A6 [1,1,1,1,1,1,0,1,0,0,1,0,0,1,1,1,1,1] [K6] (fun(zz:aj×Cells)=>[(0,zP d),(1,zI np),(2,zI nf),(6,zP b6),(7,zP b7),(10,zP iK),(11,zI j),(12,zP iD)]) (fun(zz:aj×Cells)=>[.b iD (.cells ⟨[.string zz.1.name,zI zz.1.st,zI zz.1.no,zI zz.1.head,.bool zz.1.bold]⟩ 44 (0,0)),.l LB,.l zz.2,.b iK (.cells ⟨[zI 2,zI 0,zI 0,.slice dj ei.length de,.slice cK dV.length cA,zS,zS]⟩ 86 (0,0)),.b b7 (.cells ⟨[.slice (some ⟨dA,0,none⟩) 2 2,.slice eG Aw.length dR,zS,.slice dj ei.length de,.slice cK dV.length cA,vR,vB,zS,zI 0,zI 0,zI 0,zS]⟩ 40 (0,0)),.b b6 (.cells ⟨zO⟩ 40 (0,0))]) (fun(zz:aj×Cells)=>Sx zo zz.1∧aW vd xs d zz.2) ?_ (fun K10 ahL=>?_)
      ·
       rintro⟨p2,X⟩ Vh rest
       dsimp only at Vh
       refine jd 4 [4,0]<|jn fun ajJ=>jT (sz:=5) (ps:=nC) (qs:=[(⟨p2.name,p2.st,p2.no,p2.head,p2.bold⟩:aj)]) (enc:=cU) (w:= .slice (some ⟨ajJ,0,none⟩) 1 1) [2] [0] [(ajJ,.cells ⟨([(⟨p2.name,p2.st,p2.no,p2.head,p2.bold⟩:aj)].map cU).flatten⟩ 44 (0,0))] (hB.2.1) (fun s _ hZ=>bN [(⟨p2.name,p2.st,p2.no,p2.head,p2.bold⟩:aj)] (hZ _ (.head _)) (by intro p hp;rfl)) (fun p _=>ar rfl) (by simp<;>omega) (fun aNl ax1 Bc=>?_)
       obtain⟨acM,acC,ag7⟩:=Bc.form
       subst ag7
       refine jd 5 [5]<|ja (j-1) (by omega)<|zD 2<|bA hK6 (⟨j-1,(.slice acM ((nC++[(⟨p2.name,p2.st,p2.no,p2.head,p2.bold⟩:aj)])).length acC),ax1,(nC++[(⟨p2.name,p2.st,p2.no,p2.head,p2.bold⟩:aj)]),X⟩) ⟨by simp only[List.length_append,List.length_cons,List.length_nil];omega,Bc,lK hB.2.2.1 Vh.1,Vh.2⟩ (by omega) [0,3,4,5,6] (Sub.refl _)
      refine js 120 g (fun Yn=>?_) (fun Yn=>?_)
      ·
       subst Yn
       refine jd 7 [4,4]<|A5 hB.2.1<|ja ((nC.length:Int)-1) (by omega)<|aM 7 fun JL JU Da=>jc (vs:=[zP d,zI ((nC.length:Int)-1)]) [2] (xQ (hN.up (((bB.trans fA).trans iS).trans cX)) Hw.2 (by omega)) ?_
       rintro _ axR ⟨FR,rfl,aDd,XU,ah2⟩
       refine gY Da [[4],[4]] ?_
       obtain⟨arj,G6⟩:=zG nC (FR.toNat) (by have:=Hw.1 rfl;omega)
       refine pW FR 5 hB.2.1 G6 (Int.toNat_of_nonneg (show 0≤FR∧FR <((nC).length:Int) from (by have:=Hw.1 rfl;omega)).1).symm (fun aWy ahk=>?_)
       refine mY 0 [2] LB (fun s _ hZ=>bU hB.2.1 ahk hZ G6)<|aM 10 fun OO Pc C9=>jd 1 [1]<|eo C9<|zD 1<|bA ahL ⟨arj,axR⟩ ⟨hB.2.2.1 _ (List.mem_of_getElem? G6),ah2⟩ Nat.zero_lt_one [1,2,0,3,4,5] (Sub.refl _)
      subst Yn
      refine zD 2<|bA ahL ⟨⟨pp.name,pp.st,q,pp.head,false⟩,X⟩ ⟨⟨⟨Hx.1.1,Hx.1.2.1,Hx.1.2.2,rfl⟩,NK.1⟩,Hw.2⟩ Nat.zero_lt_one [0,1,2,3,4,5] (Sub.refl _)
     refine jd 3 [4]<|A5 hB.2.1<|zD 2<|js 117 (decide ((nC.length:Int)>0)) (fun FE=>?_) (fun FE=>?_)
     ·
      have HB:=FE
      replace HB:=of_decide_eq_true HB
      refine zD 1<|jc (vs:=[zP d,zI 5]) [2] (nq (hN.up (((bB.trans fA).trans iS).trans cX)) NK.2 (by omega)) ?_
      rintro _ axS ⟨ary,rfl,ah3⟩
      refine zD 2<|bA hK9 ⟨ary,axS⟩ ⟨fun _=>by omega,ah3⟩ Nat.zero_lt_one [1,2,0,3,4,5] (Sub.refl _)
     have HB:=FE
     replace HB:=of_decide_eq_false HB
     refine zD 4<|bA hK9 ⟨false,X⟩ ⟨(fun h=>by cases h),NK.2⟩ Nat.zero_lt_one [0,1,2,3,4,5] (Sub.refl _)
    refine zJ 107 (pp.st=1) (fun Ao=>?_) fun Ao=>?_
    ·
     refine zD 3<|jn fun ajK=>SP (vs:=[zP d,.slice (some ⟨ajK,0,none⟩) 2 2]) [1] [0] [(ajK,.cells ⟨([1,3].map cq).flatten⟩ 3 (0,0))] (fun aC hs hZ=>N5 ((hN.up (((bB.trans fA).trans iS).trans cX)).up hs) Rt (bF [1,3] hZ.head (by intro p hp;rfl)) (by simp)) ?_
     rintro _ axT ⟨arz,rfl,afV,ah4⟩
     refine jd 3 [2]<|bA hK8 ⟨arz,axT⟩ ⟨⟨(fun h=>by omega),(fun _=>by simpa using afV)⟩,ah4⟩ Nat.zero_lt_one [2,3,0,4,5,6] (Sub.refl _)
    refine zD 2<|bA hK8 ⟨arA,axU⟩ ⟨⟨(fun _=>by dsimp only;omega),(fun h=>by omega)⟩,Rt⟩ Nat.zero_lt_one [1,2,0,3,4,5] (Sub.refl _)
   refine jd 4 [2]<|mX [3,5] ⟨fun z13 t14 ahH=>?_,fun z16 t17 Vd=>?_,trivial⟩
   ·
    refine jc [1] (Em (hN.up (((bB.trans fA).trans iS).trans cX)) hB.2.2.2) ?_
    rintro _ axV ⟨Mn,rfl,A8,Bj⟩
    refine gY ahH [[2]]<|mX [4,5] ⟨fun z19 t20 Rn=>?_,fun z22 t23 ahD=>?_,trivial⟩
    ·
     refine jc (vs:=[zP d,.agg ⟨[zI 2,zI 0,zI 0,.slice dj ei.length de,.slice cK dV.length cA,zS,zS]⟩,.string Mn]) [0] (lQ (hN.up (((bB.trans fA).trans iS).trans cX)) Bj ((((show bH _ _ _ _ _ from ⟨cK,sr,sq,cA,rfl,tN,py,px⟩).up fA).up iS).up cX) (by have:=n8.len;have:=qO.nh;omega)) ?_
     rintro _ Iz ⟨acs,rfl,wK,wG,wM,wO⟩
     refine eo Rn<|aM 5 fun aoZ apj NG=>jn fun iD=>eo NG<|aM 6 fun aca ac2 Jz=>jd 1 [0]<|eo Jz<|zD 1<|bA Yk ⟨iD,_,Iz⟩ ⟨⟨wK▸A8,lO n8 wM,wG⟩,wO⟩ Nat.zero_lt_one [0,2,1,3,4,5] (Sub.refl _)
    refine jn fun iD=>bI ahD [1,2,3,4,5]<|aM 4 fun Wd Ws NF=>jc (vs:=[zP d,.agg ⟨[zI 2,zI 0,zI 0,.slice dj ei.length de,.slice cK dV.length cA,zS,zS]⟩,.string Mn]) [1] (lQ (hN.up (((bB.trans fA).trans iS).trans cX)) Bj ((((show bH _ _ _ _ _ from ⟨cK,sr,sq,cA,rfl,tN,py,px⟩).up fA).up iS).up cX) (by have:=n8.len;have:=qO.nh;omega)) ?_
    rintro _ Iz ⟨acs,rfl,wK,wG,wM,wO⟩
    refine eo NF<|aM 6 fun Wc Wq Ht=>jd 1 [1]<|eo Ht<|zD 1<|bA Yk ⟨iD,_,Iz⟩ ⟨⟨wK▸A8,lO n8 wM,wG⟩,wO⟩ Nat.zero_lt_one [1,2,0,3,4,5] (Sub.refl _)
   refine jn fun iD=>bI Vd [1,2,3,4,5]<|aM 3 fun ON Pb Hs=>jc [2] (Em (hN.up (((bB.trans fA).trans iS).trans cX)) hB.2.2.2) ?_
   rintro _ axV ⟨Mn,rfl,A8,Bj⟩
   refine gY Hs [[3]]<|aM 4 fun Wb Wo ND=>jc (vs:=[zP d,.agg ⟨[zI 2,zI 0,zI 0,.slice dj ei.length de,.slice cK dV.length cA,zS,zS]⟩,.string Mn]) [0] (lQ (hN.up (((bB.trans fA).trans iS).trans cX)) Bj ((((show bH _ _ _ _ _ from ⟨cK,sr,sq,cA,rfl,tN,py,px⟩).up fA).up iS).up cX) (by have:=n8.len;have:=qO.nh;omega)) ?_
   rintro _ Iz ⟨acs,rfl,wK,wG,wM,wO⟩
   refine eo ND<|aM 6 fun ab9 ac1 Rm=>jd 1 [1]<|eo Rm<|zD 1<|bA Yk ⟨iD,_,Iz⟩ ⟨⟨wK▸A8,lO n8 wM,wG⟩,wO⟩ Nat.zero_lt_one [1,2,0,3,4,5] (Sub.refl _)
  refine zD 7<|jc (vs:=[zP d,zI np]) [1] (xQ (hN.up (((bB.trans fA).trans iS).trans cX)) hB.2.2.2 (by omega)) ?_
  rintro _ axQ ⟨arx,rfl,aDc,aC1,ah1⟩
  refine zD 3<|oL<|ek [1,1,1,1,1,1,1,0,1,0,0] [] (fun(zz:Int×Value×Cells×(List aj)×Cells)=>[(0,zP d),(2,zI nf),(6,zP b6),(7,zP b7),(10,zP iK),(13,zI zz.1)]) (fun(zz:Int×Value×Cells×(List aj)×Cells)=>[.l zz.2.2.1,.l zz.2.2.2.2,.l LB,.b iK (.cells ⟨[zI 2,zI 0,zI 0,.slice dj ei.length de,.slice cK dV.length cA,zS,zS]⟩ 86 (0,0)),.b b7 (.cells ⟨[.slice (some ⟨dA,0,none⟩) 2 2,.slice eG Aw.length dR,zS,.slice dj ei.length de,.slice cK dV.length cA,vR,vB,zz.2.1,zI 0,zI 0,zI 0,zS]⟩ 40 (0,0)),.b b6 (.cells ⟨zO⟩ 40 (0,0))]) (fun(zz:Int×Value×Cells×(List aj)×Cells)=>(0≤zz.1∧zz.2.2.2.1.length+zz.1≤4)∧az zz.2.1 5 44 cU zz.2.2.2.1 zz.2.2.1∧(∀p∈zz.2.2.2.1,Sz zo p)∧aW vd xs d zz.2.2.2.2) (fun(zz:Int×Value×Cells×(List aj)×Cells)=>zz.1.toNat) (⟨arx,zS,[],[],axQ⟩) ⟨by simp only[List.length_nil];omega,az.nil _ _ _,(fun _ h=>by cases h),ah1⟩ [0,1,2,3,4,5] ?_
  rintro⟨j,vA,LA,Et,X⟩ hA K32 awJ rest
  dsimp only at hA
  refine zD 6<|zJ 141 (j>0) (fun Vj=>?_) fun Vj=>?_
  ·
   refine zD 5<|A6 [1,1,1,1,1,1,1,0,1,0,0,1,0,0,1] [K32] (fun(zz:Nat×aj×Cells)=>[(0,zP d),(2,zI nf),(6,zP b6),(7,zP b7),(10,zP iK),(13,zI j),(14,zP zz.1)]) (fun(zz:Nat×aj×Cells)=>[.b zz.1 (.cells ⟨[.string zz.2.1.name,zI zz.2.1.st,zI zz.2.1.no,zI zz.2.1.head,.bool zz.2.1.bold]⟩ 44 (0,0)),.l LA,.l zz.2.2,.l LB,.b iK (.cells ⟨[zI 2,zI 0,zI 0,.slice dj ei.length de,.slice cK dV.length cA,zS,zS]⟩ 86 (0,0)),.b b7 (.cells ⟨[.slice (some ⟨dA,0,none⟩) 2 2,.slice eG Aw.length dR,zS,.slice dj ei.length de,.slice cK dV.length cA,vR,vB,vA,zI 0,zI 0,zI 0,zS]⟩ 40 (0,0)),.b b6 (.cells ⟨zO⟩ 40 (0,0))]) (fun(zz:Nat×aj×Cells)=>(DF zz.2.1.name∧mi zo zz.2.1.head∧(0≤zz.2.1.st∧zz.2.1.st≤1))∧aW vd xs d zz.2.2) ?_ (fun K33 Vf=>?_)
   ·
    rintro⟨Dz,pp,X⟩ Hv rest
    dsimp only at Hv
    refine zD 3<|jc (vs:=[zP d,zI 1,zI 3]) [2] (u4 (hN.up (((bB.trans fA).trans iS).trans cX)) Hv.2 (by omega) (by omega)) ?_
    rintro _ axO ⟨acp,rfl,aDb,aC0,Rs⟩
    refine jd 7 [1,1]<|A6 [1,1,1,1,1,1,1,0,1,0,0,1,0,0,1,1,0,1] [K32] (fun(zz:Bool×Cells)=>[(0,zP d),(2,zI nf),(6,zP b6),(7,zP b7),(10,zP iK),(13,zI j),(14,zP Dz),(161,.bool zz.1)]) (fun(zz:Bool×Cells)=>[.b Dz (.cells ⟨[.string pp.name,zI pp.st,zI acp,zI pp.head,.bool false]⟩ 44 (0,0)),.l LA,.l zz.2,.l LB,.b iK (.cells ⟨[zI 2,zI 0,zI 0,.slice dj ei.length de,.slice cK dV.length cA,zS,zS]⟩ 86 (0,0)),.b b7 (.cells ⟨[.slice (some ⟨dA,0,none⟩) 2 2,.slice eG Aw.length dR,zS,.slice dj ei.length de,.slice cK dV.length cA,vR,vB,vA,zI 0,zI 0,zI 0,zS]⟩ 40 (0,0)),.b b6 (.cells ⟨zO⟩ 40 (0,0))]) (fun(zz:Bool×Cells)=>(zz.1=true→0 <nC.length)∧aW vd xs d zz.2) ?_ (fun K34 ahK=>?_)
    ·
     rintro⟨g,X⟩ Hu rest
     dsimp only at Hu
     refine A6 [1,1,1,1,1,1,1,0,1,0,0,1,0,0,1,1,1] [K32] (fun(zz:aj×Cells)=>[(0,zP d),(2,zI nf),(6,zP b6),(7,zP b7),(10,zP iK),(13,zI j),(14,zP Dz)]) (fun(zz:aj×Cells)=>[.b Dz (.cells ⟨[.string zz.1.name,zI zz.1.st,zI zz.1.no,zI zz.1.head,.bool zz.1.bold]⟩ 44 (0,0)),.l LA,.l zz.2,.l LB,.b iK (.cells ⟨[zI 2,zI 0,zI 0,.slice dj ei.length de,.slice cK dV.length cA,zS,zS]⟩ 86 (0,0)),.b b7 (.cells ⟨[.slice (some ⟨dA,0,none⟩) 2 2,.slice eG Aw.length dR,zS,.slice dj ei.length de,.slice cK dV.length cA,vR,vB,vA,zI 0,zI 0,zI 0,zS]⟩ 40 (0,0)),.b b6 (.cells ⟨zO⟩ 40 (0,0))]) (fun(zz:aj×Cells)=>Sz zo zz.1∧aW vd xs d zz.2) ?_ (fun K35 Ve=>?_)
     ·
      rintro⟨p2,X⟩ Vg rest
      dsimp only at Vg
      refine jd 4 [5,0]<|jn fun ajI=>jT (sz:=5) (ps:=Et) (qs:=[(⟨p2.name,p2.st,p2.no,p2.head,p2.bold⟩:aj)]) (enc:=cU) (w:= .slice (some ⟨ajI,0,none⟩) 1 1) [2] [0] [(ajI,.cells ⟨([(⟨p2.name,p2.st,p2.no,p2.head,p2.bold⟩:aj)].map cU).flatten⟩ 44 (0,0))] (hA.2.1) (fun s _ hZ=>bN [(⟨p2.name,p2.st,p2.no,p2.head,p2.bold⟩:aj)] (hZ _ (.head _)) (by intro p hp;rfl)) (fun p _=>ar rfl) (by simp<;>omega) (fun aNj axZ Bb=>?_)
      obtain⟨acL,acA,ag6⟩:=Bb.form
      subst ag6
      refine jd 5 [6]<|ja (j-1) (by omega)<|zD 2<|bA awJ (⟨j-1,(.slice acL ((Et++[(⟨p2.name,p2.st,p2.no,p2.head,p2.bold⟩:aj)])).length acA),axZ,(Et++[(⟨p2.name,p2.st,p2.no,p2.head,p2.bold⟩:aj)]),X⟩) ⟨by simp only[List.length_append,List.length_cons,List.length_nil];omega,Bb,lK hA.2.2.1 Vg.1,Vg.2⟩ (by omega) [0,3,4,5,6,7] (Sub.refl _)
     refine js 161 g (fun Ym=>?_) (fun Ym=>?_)
     ·
      subst Ym
      refine jd 8 [5,5]<|A5 hB.2.1<|ja ((nC.length:Int)-1) (by omega)<|aM 7 fun aoY api NC=>jc (vs:=[zP d,zI ((nC.length:Int)-1)]) [2] (xQ (hN.up (((bB.trans fA).trans iS).trans cX)) Hu.2 (by omega)) ?_
      rintro _ aWV ⟨FQ,rfl,aC9,aCZ,ahY⟩
      refine gY NC [[5],[5]] ?_
      obtain⟨pg,wC⟩:=zG nC (FQ.toNat) (by have:=Hu.1 rfl;omega)
      refine pW FQ 5 hB.2.1 wC (Int.toNat_of_nonneg (show 0≤FQ∧FQ <((nC).length:Int) from (by have:=Hu.1 rfl;omega)).1).symm (fun aWx ahj=>?_)
      refine mY 0 [3] LB (fun s _ hZ=>bU hB.2.1 ahj hZ wC)<|aM 10 fun ab8 ac0 Va=>jd 1 [1]<|eo Va<|zD 5<|jc (vs:=[zP d,zI 3]) [0] (nq (hN.up (((bB.trans fA).trans iS).trans cX)) ahY (by omega)) ?_
      rintro _ axM ⟨arv,rfl,Rq⟩
      refine zD 1<|A6 [1,1,1,1,1,1,1,0,1,0,0,1,0,0,1,1,2,1,0,1,1] [K32,K35] (fun(zz:Int×Cells)=>[(0,zP d),(2,zI nf),(6,zP b6),(7,zP b7),(10,zP iK),(13,zI j),(14,zP Dz)]) (fun(zz:Int×Cells)=>[.b Dz (.cells ⟨[.string pg.name,zI pg.st,zI zz.1,zI pg.head,.bool pg.bold]⟩ 44 (0,0)),.l LA,.l zz.2,.l LB,.b iK (.cells ⟨[zI 2,zI 0,zI 0,.slice dj ei.length de,.slice cK dV.length cA,zS,zS]⟩ 86 (0,0)),.b b7 (.cells ⟨[.slice (some ⟨dA,0,none⟩) 2 2,.slice eG Aw.length dR,zS,.slice dj ei.length de,.slice cK dV.length cA,vR,vB,vA,zI 0,zI 0,zI 0,zS]⟩ 40 (0,0)),.b b6 (.cells ⟨zO⟩ 40 (0,0))]) (fun(zz:Int×Cells)=>(1≤zz.1∧zz.1≤3)∧aW vd xs d zz.2) ?_ (fun K38 ahJ=>?_)
      ·
       rintro⟨q,X⟩ NJ rest
       dsimp only at NJ
       have hO:=hB.2.2.1 _ (List.mem_of_getElem? wC)
       have hO2:=hO.1.2.2.1
       have hO3:=hO.2
       refine zD 3<|jc (vs:=[zP d,zI 4]) [2] (nq (hN.up (((bB.trans fA).trans iS).trans cX)) NJ.2 (by omega)) ?_
       rintro _ ajV ⟨art,rfl,Rp⟩
       refine zD 1<|js 178 art (fun S4=>?_) (fun S4=>?_)
       ·
        subst S4
        refine jd 5 [1]<|bA Ve ⟨⟨pg.name,pg.st,q,-1,pg.bold⟩,ajV⟩ ⟨⟨⟨hO.1.1,.inl rfl,hO.1.2.2.1,hO.1.2.2.2⟩,NJ.1⟩,Rp⟩ Nat.zero_lt_one [1,2,0,3,4,5,6] (Sub.refl _)
       subst S4
       refine zD 2<|bA Ve ⟨⟨pg.name,pg.st,q,pg.head,pg.bold⟩,ajV⟩ ⟨⟨⟨hO.1.1,hO.1.2.1,hO.1.2.2.1,hO.1.2.2.2⟩,NJ.1⟩,Rp⟩ Nat.zero_lt_one [1,2,0,3,4,5,6] (Sub.refl _)
      refine js 173 arv (fun h40=>?_) (fun h40=>?_)
      ·
       subst h40
       have hO:=hB.2.2.1 _ (List.mem_of_getElem? wC)
       have hO2:=hO.1.2.2.1
       have hO3:=hO.2
       refine zD 3<|jc (vs:=[zP d,zI 1,zI 3]) [0] (u4 (hN.up (((bB.trans fA).trans iS).trans cX)) Rq (by omega) (by omega)) ?_
       rintro _ axL ⟨aru,rfl,aC8,aCY,ahX⟩
       refine jd 3 [1]<|bA ahJ ⟨aru,axL⟩ ⟨by dsimp only;omega,ahX⟩ Nat.zero_lt_one [1,2,0,3,4,5,6] (Sub.refl _)
      subst h40
      have hO:=hB.2.2.1 _ (List.mem_of_getElem? wC)
      have hO2:=hO.1.2.2.1
      have hO3:=hO.2
      refine zD 2<|bA ahJ ⟨pg.no,axM⟩ ⟨by dsimp only;omega,Rq⟩ Nat.zero_lt_one [1,2,0,3,4,5,6] (Sub.refl _)
     subst Ym
     refine zD 2<|bA Ve ⟨⟨pp.name,pp.st,acp,pp.head,false⟩,X⟩ ⟨⟨⟨Hv.1.1,Hv.1.2.1,Hv.1.2.2,rfl⟩,by dsimp only;omega⟩,Hu.2⟩ Nat.zero_lt_one [0,1,2,3,4,5,6] (Sub.refl _)
    refine jd 3 [5]<|A5 hB.2.1<|zD 2<|js 157 (decide ((nC.length:Int)>0)) (fun h41=>?_) (fun h41=>?_)
    ·
     have HA:=h41
     replace HA:=of_decide_eq_true HA
     refine zD 1<|jc (vs:=[zP d,zI 3]) [0] (nq (hN.up (((bB.trans fA).trans iS).trans cX)) Rs (by omega)) ?_
     rintro _ axN ⟨arw,rfl,ah0⟩
     refine zD 3<|bA ahK ⟨!arw,axN⟩ ⟨fun _=>by omega,ah0⟩ Nat.zero_lt_one [1,2,0,3,4,5,6] (Sub.refl _)
    have HA:=h41
    replace HA:=of_decide_eq_false HA
    refine zD 5<|bA ahK ⟨false,axO⟩ ⟨(fun h=>by cases h),Rs⟩ Nat.zero_lt_one [1,2,0,3,4,5,6] (Sub.refl _)
   refine jd 4 [3]<|mX [3,5] ⟨fun z39 t40 ahC=>?_,fun z42 t43 awA=>?_,trivial⟩
   ·
    refine jc [1] (Em (hN.up (((bB.trans fA).trans iS).trans cX)) hA.2.2.2) ?_
    rintro _ axP ⟨Mm,rfl,A7,Bi⟩
    refine gY ahC [[3]]<|mX [4,5] ⟨fun z45 t46 awz=>?_,fun z48 t49 ahB=>?_,trivial⟩
    ·
     refine jc (vs:=[zP d,.agg ⟨[zI 2,zI 0,zI 0,.slice dj ei.length de,.slice cK dV.length cA,zS,zS]⟩,.string Mm]) [0] (lQ (hN.up (((bB.trans fA).trans iS).trans cX)) Bi ((((show bH _ _ _ _ _ from ⟨cK,sr,sq,cA,rfl,tN,py,px⟩).up fA).up iS).up cX) (by have:=n8.len;have:=qO.nh;omega)) ?_
     rintro _ Iy ⟨acr,rfl,wJ,wF,wL,wN⟩
     refine eo awz<|aM 5 fun aoX aph ahA=>jn fun Dz=>eo ahA<|aM 6 fun aoW apg U9=>jd 1 [0]<|eo U9<|zD 1<|bA Vf ⟨Dz,_,Iy⟩ ⟨⟨wJ▸A7,lO n8 wL,wF⟩,wN⟩ Nat.zero_lt_one [0,2,1,3,4,5,6] (Sub.refl _)
    refine jn fun Dz=>bI ahB [1,2,3,4,5,6]<|aM 4 fun ab7 acZ U8=>jc (vs:=[zP d,.agg ⟨[zI 2,zI 0,zI 0,.slice dj ei.length de,.slice cK dV.length cA,zS,zS]⟩,.string Mm]) [1] (lQ (hN.up (((bB.trans fA).trans iS).trans cX)) Bi ((((show bH _ _ _ _ _ from ⟨cK,sr,sq,cA,rfl,tN,py,px⟩).up fA).up iS).up cX) (by have:=n8.len;have:=qO.nh;omega)) ?_
    rintro _ Iy ⟨acr,rfl,wJ,wF,wL,wN⟩
    refine eo U8<|aM 6 fun ab6 acY U7=>jd 1 [1]<|eo U7<|zD 1<|bA Vf ⟨Dz,_,Iy⟩ ⟨⟨wJ▸A7,lO n8 wL,wF⟩,wN⟩ Nat.zero_lt_one [1,2,0,3,4,5,6] (Sub.refl _)
   refine jn fun Dz=>bI awA [1,2,3,4,5,6]<|aM 3 fun aoV apf ahz=>jc [2] (Em (hN.up (((bB.trans fA).trans iS).trans cX)) hA.2.2.2) ?_
   rintro _ axP ⟨Mm,rfl,A7,Bi⟩
   refine gY ahz [[4]]<|aM 4 fun aoU ape ahy=>jc (vs:=[zP d,.agg ⟨[zI 2,zI 0,zI 0,.slice dj ei.length de,.slice cK dV.length cA,zS,zS]⟩,.string Mm]) [0] (lQ (hN.up (((bB.trans fA).trans iS).trans cX)) Bi ((((show bH _ _ _ _ _ from ⟨cK,sr,sq,cA,rfl,tN,py,px⟩).up fA).up iS).up cX) (by have:=n8.len;have:=qO.nh;omega)) ?_
   rintro _ Iy ⟨acr,rfl,wJ,wF,wL,wN⟩
   refine eo ahy<|aM 6 fun aoT apd U6=>jd 1 [1]<|eo U6<|zD 1<|bA Vf ⟨Dz,_,Iy⟩ ⟨⟨wJ▸A7,lO n8 wL,wF⟩,wN⟩ Nat.zero_lt_one [1,2,0,3,4,5,6] (Sub.refl _)
  refine zD 6<|jc (vs:=[zP d,zI 4]) [1] (xQ (hN.up (((bB.trans fA).trans iS).trans cX)) hA.2.2.2 (by omega)) ?_
  rintro _ aWU ⟨I6,rfl,aC7,aCX,ahW⟩
  refine jn fun abv=>SP (vs:=[zP d,.slice (some ⟨abv,0,none⟩) 4 4]) [1] [0] [(abv,.cells ⟨([1,2,4,I6].map cq).flatten⟩ 3 (0,0))] (fun aC hs hZ=>N5 ((hN.up (((bB.trans fA).trans iS).trans cX)).up hs) ahW (bF [1,2,4,I6] hZ.head (by intro p hp;rfl)) (by simp)) ?_
  rintro _ aWT ⟨Ml,rfl,afT,ahV⟩
  refine zD 2<|jc (vs:=[zP d,zI 4]) [0] (xQ (hN.up (((bB.trans fA).trans iS).trans cX)) ahV (by omega)) ?_
  rintro _ aWS ⟨I5,rfl,aC6,aCW,ahU⟩
  refine jn fun abu=>SP (vs:=[zP d,.slice (some ⟨abu,0,none⟩) 4 4]) [1] [0] [(abu,.cells ⟨([1,2,4,I5].map cq).flatten⟩ 3 (0,0))] (fun aC hs hZ=>N5 ((hN.up (((bB.trans fA).trans iS).trans cX)).up hs) ahU (bF [1,2,4,I5] hZ.head (by intro p hp;rfl)) (by simp)) ?_
  rintro _ aWR ⟨Mk,rfl,afS,ahT⟩
  refine zD 2<|jc (vs:=[zP d,zI 4]) [0] (xQ (hN.up (((bB.trans fA).trans iS).trans cX)) ahT (by omega)) ?_
  rintro _ aWQ ⟨I4,rfl,aC5,aCV,ahS⟩
  refine jn fun abt=>SP (vs:=[zP d,.slice (some ⟨abt,0,none⟩) 4 4]) [1] [0] [(abt,.cells ⟨([1,2,4,I4].map cq).flatten⟩ 3 (0,0))] (fun aC hs hZ=>N5 ((hN.up (((bB.trans fA).trans iS).trans cX)).up hs) ahS (bF [1,2,4,I4] hZ.head (by intro p hp;rfl)) (by simp)) ?_
  rintro _ aWP ⟨Mj,rfl,afR,ahQ⟩
  refine jd 6 [7,7,7] ?_
  have yy:=aal afT (by omega:0≤I6∧I6≤4)
  have zp:=aal afS (by omega:0≤I5∧I5≤4)
  have p8:=aal afR (by omega:0≤I4∧I4≤4)
  refine zD 6<|jc (vs:=[zP d,zI nf]) [0] (xQ (hN.up (((bB.trans fA).trans iS).trans cX)) ahQ (by omega)) ?_
  rintro _ aoH ⟨ars,rfl,aC4,aCU,ahP⟩
  refine zD 3<|ek [1,1,1,1,1,1,1,1,1,0,1,0,0] [] (fun(zz:Int)=>[(0,zP d),(6,zP b6),(7,zP b7),(15,zI zz)]) (fun(zz:Int)=>[.l aoH,.b abt (.cells ⟨[zI 1,zI 2,zI 4,zI I4]⟩ 3 (0,0)),.b abu (.cells ⟨[zI 1,zI 2,zI 4,zI I5]⟩ 3 (0,0)),.b abv (.cells ⟨[zI 1,zI 2,zI 4,zI I6]⟩ 3 (0,0)),.l LA,.l LB,.b iK (.cells ⟨[zI 2,zI 0,zI 0,.slice dj ei.length de,.slice cK dV.length cA,zS,zS]⟩ 86 (0,0)),.b b7 (.cells ⟨[.slice (some ⟨dA,0,none⟩) 2 2,.slice eG Aw.length dR,zS,.slice dj ei.length de,.slice cK dV.length cA,vR,vB,vA,zI Ml,zI Mk,zI Mj,zS]⟩ 40 (0,0)),.b b6 (.cells ⟨zO⟩ 40 (0,0))]) (fun(zz:Int)=>0≤zz∧zz≤nf) (fun(zz:Int)=>zz.toNat) ars (by omega) [0,1,2,3,4,5,6,7,8] ?_
  rintro j hF K58 awI rest
  refine zD 6<|js 209 (decide (j>0)) (fun h53=>?_) (fun h53=>?_)
  ·
   have ah8:=h53
   replace ah8:=of_decide_eq_true ah8
   exfalso;omega
  have ah8:=h53
  replace ah8:=of_decide_eq_false ah8
  refine zD 16<|jf [4] LA (fun bcQ af1 aST=>?_)
  have hAF:=hA.2.1.kJ aST
  refine jd 1 [6] ?_
  obtain⟨acH,acw,ag3⟩:=hR.2.1.form
  subst ag3
  obtain⟨Zl,Zk,Nw⟩:=hB.2.1.form
  subst Nw
  obtain⟨aMY,aMA,aTp⟩:=hA.2.1.form
  subst aTp
  refine jd 3 [7]<|aH q0.a.a.a.a.a (.agg ⟨[.slice (some ⟨dA,0,none⟩) 2 2,.slice eG Aw.length dR,zS,.slice dj ei.length de,.slice cK dV.length cA,(.slice acH (rs).length acw),(.slice Zl (nC).length Zk),(.slice aMY (Et).length aMA),zI Ml,zI Mk,zI Mj,zS]⟩) [7] [4,0] (LB++aoH) (Sub.refl _) ⟨_,_,_,rfl,rfl,((((bB.trans fA).trans iS).trans cX).trans af1),⟨ways,ei,zo,rs,nC,Et,Ml,Mk,Mj,[],wh⟩,_,_,_,_,_,_,_,_,none,0,_,_,rfl,⟨JA.2.1,qO,⟨by dsimp only;omega,hR.2.2⟩,⟨by dsimp only;omega,hB.2.2.1⟩,⟨by dsimp only;omega,hA.2.2.1⟩,⟨yy,zp,p8⟩,⟨Nat.zero_le _,fun _ h=>by cases h⟩,List.Pairwise.nil,rfl⟩,rfl,(by dsimp only;omega),AG (by obtain⟨_,h,_⟩:=anJ;exact fR h) (by obtain⟨_,h,_⟩:=aaU;exact fR h) (fR p7.1) (fR p7.2.1) (ib hR.2.1) (ib hB.2.1) (ib hA.2.1) rfl,hB.2.1,fun kK nJ vB bs hvB=>⟨_,_,_,_,_,_,_,_,none,0,dV,rfl,((anJ.up ((iS.trans cX).trans af1))).up nJ,((aaU.up (cX.trans af1))).up nJ,((p7.up (((fA.trans iS).trans cX).trans af1))).up nJ,n8,((hRU.up af1)).up nJ,hvB,(hAF).up nJ,bH.nil _ _ _ _ _⟩,rfl,ahP⟩
 refine js 30 w30 (fun h60=>?_) (fun h60=>?_)
 ·
  subst h60
  refine jd 7 [1]<|aM 4 fun azm az5 awx=>jc [0] (aoe (hN.up (bB.trans fA)) ahO) ?_
  rintro _ X35 ⟨jF,rfl,afP,awR⟩
  refine gY awx [[1]]<|aM 5 fun azl az4 ahw=>jn fun dg=>bI ahw [1,2,3]<|zD 1<|aM 7 fun aoS apc ahv=>jn fun b38=>bI ahv [1,2,3,4]<|aM 8 fun aoR apb ahu=>aCK (E:=81) (sz:=1) gT (qs:=[(.slice (some ⟨dg,0,none⟩) 1 1:Value)]) (w:= .slice (some ⟨b38,0,none⟩) 1 1) [0] [(b38,.cells ⟨([(.slice (some ⟨dg,0,none⟩) 1 1:Value)].map gT).flatten⟩ 81 (0,0))] (fun s _ hZ=>bN [(.slice (some ⟨dg,0,none⟩) 1 1:Value)] (hZ _ (.head _)) (by intro p hp;rfl)) (by intro p hp;rw[List.mem_singleton] at hp;subst hp;exact ar rfl) (by simp<;>omega) (fun v39 L39 n6=>?_)
  obtain⟨acJ,acy,US⟩:=n6.form
  subst US
  refine bI ahu [1,2,3,4,5]<|zD 2<|aM 11 fun azk az3 aww=>jd 1 [4]<|gY aww []<|zD 4<|jc (vs:=[zP d,zI 2]) [3] (nq (hN.up (bB.trans fA)) awR (by omega)) ?_
  rintro _ X43 ⟨w43,rfl,ahN⟩
  refine zD 1<|js 43 w43 (fun h66=>?_) (fun h66=>?_)
  ·
   subst h66
   refine jd 8 [4,4]<|QE 1 n6 (show ([(.slice (some ⟨dg,0,none⟩) 1 1:Value)])[0]?=some (.slice (some ⟨dg,0,none⟩) 1 1:Value) from rfl) fun b50 awj=>zD 1<|mY 0 [1] L39 (fun s _ hZ=>bU n6 awj hZ (show ([(.slice (some ⟨dg,0,none⟩) 1 1:Value)])[0]?=some (.slice (some ⟨dg,0,none⟩) 1 1:Value) from rfl))<|zD 1<|aM 10 fun azj az2 awv=>jc [0] (aoe (hN.up (bB.trans fA)) ahN) ?_
   rintro _ X54 ⟨j6,rfl,auz,awQ⟩
   refine gY awv [[1],[4],[4]]<|aM 11 fun azi az1 aht=>jn fun YW=>bI aht [1,2,3,4,5,6]<|aM 12 fun azh az0 awu=>jT (sz:=7) (ps:=[(⟨jF.k,jF.st,jF.ot,jF.fn,jF.fl,jF.tn,jF.tl⟩:aF)]) (qs:=[(⟨j6.k,j6.st,j6.ot,j6.fn,j6.fl,j6.tn,j6.tl⟩:aF)]) (enc:=k9) (w:= .slice (some ⟨YW,0,none⟩) 1 1) [4] [0] [(YW,.cells ⟨([(⟨j6.k,j6.st,j6.ot,j6.fn,j6.fl,j6.tn,j6.tl⟩:aF)].map k9).flatten⟩ 77 (0,0))] (AV (b:=dg) (T:=77) [(⟨jF.k,jF.st,jF.ot,jF.fn,jF.fl,jF.tn,jF.tl⟩:aF)] rfl (by intro p hp;rfl)) (fun s _ hZ=>bN [(⟨j6.k,j6.st,j6.ot,j6.fn,j6.fl,j6.tn,j6.tl⟩:aF)] (hZ _ (.head _)) (by intro p hp;rfl)) (fun p _=>ar rfl) (by simp<;>omega) (fun v56 L56 m8=>?_)
   obtain⟨FV,FU,Nx⟩:=m8.form
   subst Nx
   refine gY awu [[5],[5]]<|QE 1 n6 (show ([(.slice (some ⟨dg,0,none⟩) 1 1:Value)])[0]?=some (.slice (some ⟨dg,0,none⟩) 1 1:Value) from rfl) fun b57 awi=>zD 1<|aM 15 fun azg azZ awt=>QG 3 0 [(.slice FV (([(⟨jF.k,jF.st,jF.ot,jF.fn,jF.fl,jF.tn,jF.tl⟩:aF)]++[(⟨j6.k,j6.st,j6.ot,j6.fn,j6.fl,j6.tn,j6.tl⟩:aF)])).length FU)] ((.slice FV (([(⟨jF.k,jF.st,jF.ot,jF.fn,jF.fl,jF.tn,jF.tl⟩:aF)]++[(⟨j6.k,j6.st,j6.ot,j6.fn,j6.fl,j6.tn,j6.tl⟩:aF)])).length FU):Value) n6 awi (show ([(.slice (some ⟨dg,0,none⟩) 1 1:Value)])[0]?=some (.slice (some ⟨dg,0,none⟩) 1 1:Value) from rfl) rfl rfl (Nat.le_of_ble_eq_true rfl) fun L71 aSf=>gY awt []<|zD 1<|KY bM ⟨(.slice acJ ([(.slice (some ⟨dg,0,none⟩) 1 1:Value)]).length acy),L71++L56,[[jF,j6]],X54⟩ ⟨fun _ hk=>⟨_,aSf.kJ hk.left,.cons (m8.kJ hk.right) .nil⟩,⟨by simp,by simpa using ⟨afP,auz⟩⟩,awQ⟩ Nat.zero_lt_one [[0,1],[3],[5],[6]] (Sub.refl _)
  subst h66
  refine zD 2<|KY bM ⟨(.slice acJ ([(.slice (some ⟨dg,0,none⟩) 1 1:Value)]).length acy),L39++[(dg,.cells ⟨[zI jF.k,zI jF.st,zI jF.ot,zI jF.fn,zI jF.fl,zI jF.tn,zI jF.tl]⟩ 77 (0,0))],[[jF]],X43⟩ ⟨fun _ hk=>⟨_,n6.kJ hk.left,.cons (bF [jF] (hk.right _ (.head _)) (fun _ _=>rfl)) .nil⟩,⟨by simp,by simpa using afP⟩,ahN⟩ Nat.zero_lt_one [[1,3],[0],[4],[5]] (Sub.refl _)
 subst h60
 refine zD 2<|oL<|bA bM ⟨zS,[],[],X30⟩ ⟨fun _ _=>Gc,⟨by simp,by simp⟩,ahO⟩ Nat.zero_lt_one [0,1,2,3] (Sub.refl _)
theorem atC{ro:Nat→Option Obj}(hN:Dn ro vd xs):aq8 zT 3 [vd] ro (fun r Y=>r= .bool true∧Y=[]):=by
 have hN0:=hN
 obtain⟨hl,hxn⟩:=hN
 obtain⟨fL,sj,si,fp,rfl,tZ,lU,mS⟩:=hl
 refine aCE av (by kernel_rfl) [] bh fun fr=>zD 7<|jc (vs:=[.slice fL xs.length fp]) [] (aV7 hN0.1) ?_
 rintro _ X16 ⟨d16,rfl,ahZ⟩
 refine zD 5<|jcG (vs:=[zP d16,zI 3,zI 0]) [0] (aH7 hN0 ahZ (by decide) rfl) ?_
 rintro _ aC _ bB ⟨K,v0,v1,v3,v4,v5,v6,v7,vb,va,vc,aI2,X18,rfl,hO,EZ,Ai,hsg,hBo,hKf,rfl,Hz⟩
 have IJ:=V7.all (K:=K) ⟨v0,v1,v3,v4,v5,v6,v7,vb,va,vc,rfl,hsg⟩
 have hC:=hO.c
 have hV:=hO.v
 have avh:=hO.uu
 have Lj:=hV.after.1
 refine jg 0 [.l aI2,.l X18]<|jn (fun b4=>?_)
 obtain⟨va2,vc2,FB⟩:=hBo.form
 subst FB
 refine jsx 0 b4 0 zO [v0,v1,.slice va 0 vc,v3,v4,v5,(.slice va2 (K.before).length vc2),v7,zI K.gone,zI K.new,zI K.af,vb] 40 IJ rfl<|jd 9 [0]<|zJ 18 ((K.before.length:Int)=0) (fun h3=>?_) fun h3=>?_
 ·
  refine zD 3<|KZ [] (fun _ _ h=>h) (WX) ?_
  rintro _ _ ⟨rfl,rfl⟩
  refine jg 0 []<|zD 3<|II qC.a (.bool true) [3] [] bB ⟨rfl,rfl⟩
 refine jd 12 [0,0,0]<|ja ((K.before.length:Int)-1) (by omega)<|aM 9 fun B4 Cc yy=>jc (vs:=[zP d16,zI ((K.before.length:Int)-1)]) [2] (xQ (hN0.up bB) Hz (by omega)) ?_
 rintro _ X29 ⟨Zj,rfl,aRq,ze,aHp⟩
 refine gY yy [[1],[1],[1]] ?_
 obtain⟨gi,jv⟩:=zG K.before (Zj.toNat)
 refine pW Zj 5 hBo jv (Int.toNat_of_nonneg (show 0≤Zj∧Zj <((K.before).length:Int) from (by omega)).1).symm fun b30 NA=>mY 0 [2] aI2 (fun s _ hZ=>bU hBo NA hZ jv)<|aM 12 fun B3 Cb zp=>jn fun b32=>bI zp [1,2,3,4]<|aM 13 fun rZ r8 p8=>jT (sz:=5) (ps:=K.before) (qs:=[(⟨gi.name,gi.st,gi.no,gi.head,gi.bold⟩:aj)]) (enc:=cU) (w:= .slice (some ⟨b32,0,none⟩) 1 1) [3] [0] [(b32,.cells ⟨([(⟨gi.name,gi.st,gi.no,gi.head,gi.bold⟩:aj)].map cU).flatten⟩ 44 (0,0))] (hBo) (fun s _ hZ=>bN [(⟨gi.name,gi.st,gi.no,gi.head,gi.bold⟩:aj)] (hZ _ (.head _)) (by intro p hp;rfl)) (fun p _=>ar rfl) (by simp only[List.length_append,List.length_cons,List.length_nil];omega) (fun v33 L33 Hf=>?_)
 obtain⟨Zm,OZ,avW⟩:=Hf.form
 subst avW
 refine gY p8 [[3],[3]]<|zD 1<|aM 15 fun sL sR rn=>jd 1 [3]<|eo rn<|zD 5<|jf [0] L33 (fun bcZ hs8 hk9=>?_)
 have hb:=Hf.kJ hk9
 have hKt:fU _ _ (Ey K gi):=hKf _ hs8 _ _ hb
 obtain⟨pz,SL,SJ,oZ,heb,SK,MQ,MP⟩:=hb
 simp only[Value.slice.injEq,true_and] at heb
 obtain⟨rfl,rfl⟩:=heb
 have ap6:=List.mem_of_getElem? jv
 have UY:K.before.length≤3:=by omega
 have S3:=hC.tw UY ap6 EZ
 have hVt:=hV.tw UY ap6 EZ
 have E1:(K.before++[gi]).length=K.before.length+1:=by simp
 refine zD 2<|ek [1,1,1,1,1,0,1,0,0] [] (fun(zz:Nat)=>[(4,zP b4),(5,zI (zz:Int))]) (fun(zz:Nat)=>[.b b32 (.cells ⟨[.string gi.name,zI gi.st,zI gi.no,zI gi.head,.bool gi.bold]⟩ 44 (0,0)),.l X29,.b b4 (.cells ⟨[v0,v1,.slice va 0 vc,v3,v4,v5,.slice Zm ((K.before++[gi]).length) OZ,v7,zI K.gone,zI K.new,zI K.af,vb]⟩ 40 (0,0)),.l fr]) (fun(zz:Nat)=>zz≤K.before.length+1) (fun(zz:Nat)=>K.before.length+1-zz) 0 (by omega) [0,1,2,3] ?_
 rintro i hI K5 hK5 rest
 refine jd 9 [2]<|zJ 39 ((i:Int) <((K.before++[gi]).length:Int)) (fun HG=>?_) fun HG=>?_
 ·
  refine zD 9<|ek [1,1,1,1,1,0,1,0,0,1,0,0,1,0,0] [K5] (fun(zz:Nat)=>[(4,zP b4),(5,zI (i:Int)),(6,zI (zz:Int))]) (fun(zz:Nat)=>[.b b32 (.cells ⟨[.string gi.name,zI gi.st,zI gi.no,zI gi.head,.bool gi.bold]⟩ 44 (0,0)),.l X29,.b b4 (.cells ⟨[v0,v1,.slice va 0 vc,v3,v4,v5,.slice Zm ((K.before++[gi]).length) OZ,v7,zI K.gone,zI K.new,zI K.af,vb]⟩ 40 (0,0)),.l fr]) (fun(zz:Nat)=>zz≤i) (fun(zz:Nat)=>i-zz) 0 (by omega) [0,1,2,3] ?_
  rintro j hJ K6 hK6 rest
  refine zD 7<|zJ 44 ((j:Int) <(i:Int)) (fun BY=>?_) fun BY=>?_
  ·
   refine jd 10 [2] ?_
   obtain⟨x50,aup⟩:=zG ((K.before++[gi])) i
   refine iM OZ 5 MQ aup<|jl 0 (MP _ _ aup)<|jd 3 [2] ?_
   obtain⟨Ze,QL⟩:=zG ((K.before++[gi])) j
   refine iM OZ 5 MQ QL<|jl 0 (MP _ _ QL)<|jne aQl (aHX x50.name x50.st x50.no x50.head x50.bold Ze.name Ze.st Ze.no Ze.head Ze.bold)<|zD 1<|js 57 (!(x50.name==Ze.name&&(x50.st==Ze.st&&(x50.no==Ze.no&&(x50.head==Ze.head&&(x50.bold==Ze.bold&&true)))))) (fun Ap=>?_) (fun Ap=>?_)
   ·
    refine zD 4<|ja ((j:Int)+1) (by omega)<|zD 2<|bA hK6 (j+1) (by omega) (by omega) [0,1,2,3] (Sub.refl _)
   have hxx:=eqP (by assumption)
   refine jd 6 [2]<|KZ (vs:=[.agg ⟨[v0,v1,.slice va 0 vc,v3,v4,v5,.slice Zm ((K.before++[gi]).length) OZ,v7,zI K.gone,zI K.new,zI K.af,vb]⟩,zI (i:Int)]) [] (fun _ _ h=>h) (ap2 (K:=Ey K gi) (a:=i) hKt hVt (mQ S3) (xk hKt S3 hVt) (by show i <(K.before++[gi]).length;omega)) ?_
   rintro _ YP ⟨zP,vP,eP,hzP,rfl,hpP,hoP⟩
   refine jd 10 [3]<|KZ (vs:=[.agg ⟨[v0,v1,.slice va 0 vc,v3,v4,v5,.slice Zm ((K.before++[gi]).length) OZ,v7,zI K.gone,zI K.new,zI K.af,vb]⟩,zI (j:Int)]) [] (fun _ _ h=>h) (ap2 (K:=Ey K gi) (a:=j) hKt hVt (mQ S3) (xk hKt S3 hVt) (by show j <(K.before++[gi]).length;omega)) ?_
   rintro _ YQ ⟨zQ,vQ,eQ,hzQ,rfl,hpQ,hoQ⟩
   have hlw:=LY (K:=Ey K gi) EZ (by show (K.before++[gi]).length≤4;omega) (show i <(K.before++[gi]).length by omega) (show j <(K.before++[gi]).length by omega) (show (K.before++[gi])[i]?=(K.before++[gi])[j]? by rw[aup,QL,hxx]) (K.after.length+1)
   have uZ:=Bu zP i (K.after.length+1)
   have bf3:(e8 zP i ((Ey K gi).after.length+1)).length≤5:=by show (e8 zP i (K.after.length+1)).length≤5;omega
   have hPQ:e8 zQ j (K.after.length+1)=e8 zP i (K.after.length+1):=by rw[Di hzP,Di hzQ];exact hlw.symm
   rw[show (Ey K gi).after=K.after from rfl,hPQ] at hoQ
   refine zD 7 ?_
   have n12:=(hzP.trans hzQ.symm).length_eq
   have qP:(zP.length=0∧eP=9)∨(0 <zP.length∧eP=0):=by rcases hpP with ⟨h,e⟩| ⟨h,e⟩;exact .inl ⟨by rw[h];rfl,e⟩;exact .inr ⟨List.length_pos_iff.2 h,e⟩
   have qQ:(zQ.length=0∧eQ=9)∨(0 <zQ.length∧eQ=0):=by rcases hpQ with ⟨h,e⟩| ⟨h,e⟩;exact .inl ⟨by rw[h];rfl,e⟩;exact .inr ⟨List.length_pos_iff.2 h,e⟩
   have hee:eQ=eP∧(eP=0∨eP=9):=by omega
   refine zD 5<|js 73 (!decide (eP=eQ)) (fun Rv=>?_) (fun Rv=>?_)
   ·
    have HF:=Rv
    replace HF:=of_decide_eq_false (by simpa using HF)
    exfalso;omega
   have HF:=Rv
   replace HF:=of_decide_eq_true (by simpa using HF)
   refine zD 3<|js 76 (!decide (eP=0)) (fun HE=>?_) (fun HE=>?_)
   ·
    have wQ:=HE
    replace wQ:=of_decide_eq_false (by simpa using wQ)
    refine zD 5<|js 81 (!decide (eP=9)) (fun NN=>?_) (fun NN=>?_)
    ·
     have HD:=NN
     replace HD:=of_decide_eq_false (by simpa using HD)
     exfalso;omega
    have HD:=NN
    replace HD:=of_decide_eq_true (by simpa using HD)
    refine zD 2<|jp (vs:=[vP,vQ]) [1,0] (YP++YQ) (fun aC hs hZ=>(show dz _ _ _ _ (.bool true) from by have:=RZ (hoP.kJ hZ.left) (hoQ.kJ hZ.right) (by omega) (by omega);rwa[By] at this)) ?_
    refine zD 7<|ja ((j:Int)+1) (by omega)<|zD 2<|bA hK6 (j+1) (by omega) (by omega) [2,3,4,5] (Sub.refl _)
   have wQ:=HE
   replace wQ:=of_decide_eq_true (by simpa using wQ)
   refine zD 7<|jp (vs:=[vP,vQ]) [1,0] (YP++YQ) (fun aC hs hZ=>(show dz _ _ _ _ (.bool true) from by have:=RZ (hoP.kJ hZ.left) (hoQ.kJ hZ.right) (by omega) (by omega);rwa[By] at this)) ?_
   refine zD 7<|ja ((j:Int)+1) (by omega)<|zD 2<|bA hK6 (j+1) (by omega) (by omega) [2,3,4,5] (Sub.refl _)
  refine zD 4<|ja ((i:Int)+1) (by omega)<|zD 2<|bA hK5 (i+1) (by omega) (by omega) [0,1,2,3] (Sub.refl _)
 refine zD 4<|KZ [] (fun _ _ h=>h) (WX) ?_
 rintro _ _ ⟨rfl,rfl⟩
 refine jg 0 []<|zD 3<|II qC.a.a (.bool true) [3] [] (bB.trans hs8) ⟨rfl,rfl⟩
theorem GR(W:World)(hN:Dn (fun b=>W.heap[b]?) vd xs) {Post:Value→World→Prop}
 (Rl:∀w:World,(∀(b:Nat) (o:Obj),W.heap[b]?=some o→w.heap[b]?=some o)→w.os=W.os→w.output=W.output→Post (.bool true) w):
 ∃N last o w' t',runNT zT (N+1) (solo (G (Frame.enter zT 3 ⟨[vd]⟩ .normal) []) W) #[]=(.ended o w',t')∧runN zT N (solo (G (Frame.enter zT 3 ⟨[vd]⟩ .normal) []) W)= .next last∧step zT last= .ended o w'∧Good zT Post last o w' t':=by
 have ha:aS ⟨fun b=>W.heap[b]?,[]⟩ W:=⟨fun _ _ h=>h,(fun _ _ h=>(by cases h)),by simp,(fun _ _ h=>(by cases h))⟩
 exact ac8 ha (atC hN _ _ _ fun v Y w qF p6 tO EY=>by
  obtain⟨rfl,rfl⟩:=qF
  exact Rl w (fun b o hb=>p6.ro b o hb) tO EY)
end Go.L
