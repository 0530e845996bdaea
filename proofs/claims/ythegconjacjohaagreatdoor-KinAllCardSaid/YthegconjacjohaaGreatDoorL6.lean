/- Part 6 of the proof. -/
import Derived.Test.YthegconjacjohaaGreatDoorL5
set_option maxRecDepth 100000
set_option linter.all false
namespace Go.L
open Go Go.Conc Go.Proofs
variable {ro:Nat→Option Obj} {K:aE} {l es:List Value} {α β:Type} {i k ck j na fc:Nat} {T R:Nat→Nat→Int} {n b:Int} {rows W:List (List Int)} {x y:aI} {xs:List Int} {seen:List Nat} {F:Nat→Nat→Bool} {p q:Nat→Int} {ch:aO} {Z:Cells} {v0 v1 v3 v5 v6 v7 vb vd:Value}
def Kg:Value→Int
 | .int _ n=>n
 |_=>0
def U8(f:P4→Int)(F:List (P4×Value)):Int:=(F.map fun x=>f x.1*Kg x.2).sum
def pk(x:aj):P4:=(x.w0,x.w1,x.w2,x.w3)
def ae1(f:P4→Int)(zs:List aj):Int:=(zs.map fun x=>f (pk x)).sum
structure CF(F:List (P4×Value))(zs:List aj):Prop where
 sum:∀f,U8 f F=ae1 f zs
 val:∀x∈F,∃n,x.2= zI n∧0≤n∧n≤zs.length
 key:∀x∈F,∃z∈zs,x.1=pk z
theorem CF.nil:CF [] []:=⟨fun _=>rfl,by simp,by simp⟩
theorem Hb{κ:Type}(g:κ×Value→Int):∀ {F:List (κ×Value)} {i:Nat} {k:κ} {u v:Value},F[i]?=some (k,u)→((uK k v F i).map g).sum=(F.map g).sum-g (k,u)+g (k,v)
 | [],_,_,_,_,h=>by simp at h
 |x::F,0,k,u,v,h=>by simp at h;subst h;simp only[uK,List.map_cons,List.sum_cons];omega
 |x::F,i+1,k,u,v,h=>by
  simp at h
  have:=Hb g (v:=v) h
  simp only[uK,List.map_cons,List.sum_cons];omega
theorem xe{κ:Type}:∀ {F:List (κ×Value)} {i:Nat} {k:κ} {v:Value} {x:κ×Value},x∈uK k v F i→x=(k,v)∨x∈F
 | [],_,_,_,_,h=>by cases h
 |y::F,0,k,v,x,h=>by
  rcases List.mem_cons.1 h with h|h
  ·exact .inl h
  exact .inr (List.mem_cons_of_mem _ h)
 |y::F,i+1,k,v,x,h=>by
  rcases List.mem_cons.1 h with h|h
  ·exact .inr (by rw[h];exact List.mem_cons_self)
  exact(xe h).imp id (List.mem_cons_of_mem _)
theorem CF.look{F:List (P4×Value)}{zs:List aj}(h:CF F zs)(k:P4):∃n,Ox (zI 0) false k F= zI n∧0≤n∧n≤zs.length:=by
 simp only[Ox,lkM]
 cases hf:tz k F 0 with
 |none=>exact⟨0,rfl,by omega,by omega⟩
 |some u=>
  obtain⟨j,u⟩:=u
  have:=(q9 hf).2
  exact h.val _ (zL this)
theorem CF.upd{F F1:List (P4×Value)}{zs:List aj}{x:aj}(h:CF F zs)(h1:((∃u,tz (pk x) F 0=some u)∧F1=F)∨(tz (pk x) F 0=none∧F1=F++[(pk x,zI 0)]))(hl:Ox (zI 0) false (pk x) F= zI n)(hn:0≤n∧n≤zs.length):CF (mS (pk x) (zI (n+1)) F1) (zs++[x]):=by
 have hz (f:P4→Int):ae1 f (zs++[x])=ae1 f zs+f (pk x):=by simp[ae1]
 rcases h1 with ⟨⟨⟨j,u⟩,hf⟩,rfl⟩| ⟨hf,rfl⟩
 ·have hu:=q9 hf
  simp only[Nat.sub_zero] at hu
  have rO:u= zI n:=by simpa [Ox,lkM,hf] using hl
  subst rO
  simp only[mS,hf]
  refine⟨fun f=>?_,fun y hy=>?_,fun y hy=>?_⟩
  ·rw[hz,←h.sum,U8,Hb _ hu.2,U8]
   simp only[Kg,Int.mul_add,Int.mul_one];omega
  ·rcases xe hy with rfl|hy
   ·exact⟨n+1,rfl,by omega,by simp;omega⟩
   obtain⟨m,h1,h2⟩:=h.val _ hy
   exact⟨m,h1,by omega,by simp;omega⟩
  rcases xe hy with rfl|hy
  ·exact⟨x,by simp,rfl⟩
  obtain⟨z,h1,h2⟩:=h.key _ hy
  exact⟨z,by simp[h1],h2⟩
 have rO:n=0:=by
  have:(Value.int .i64 0)= zI n:=by simpa [Ox,lkM,hf] using hl
  cases this;rfl
 subst rO
 have hs:mS (pk x) (zI (0+1)) (F++[(pk x,zI 0)])=uK (pk x) (zI (0+1)) (F++[(pk x,zI 0)]) (0+F.length):=by
  simp only[mS,Cd (v:= zI 0) hf]
 have hg:(F++[(pk x,Value.int .i64 0)])[0+F.length]?=some (pk x,zI 0):=by simp
 rw[hs]
 refine⟨fun f=>?_,fun y hy=>?_,fun y hy=>?_⟩
 ·rw[hz,←h.sum,U8,Hb _ hg,U8]
  simp[Kg]
 ·rcases xe hy with rfl|hy
  ·exact⟨0+1,rfl,by omega,by simp;omega⟩
  rcases List.mem_append.1 hy with hy|hy
  ·obtain⟨m,h1,h2⟩:=h.val _ hy
   exact⟨m,h1,by omega,by simp;omega⟩
  rw[List.mem_singleton] at hy;subst hy
  exact⟨0,rfl,by omega,by omega⟩
 rcases xe hy with rfl|hy
 ·exact⟨x,by simp,rfl⟩
 rcases List.mem_append.1 hy with hy|hy
 ·obtain⟨z,h1,h2⟩:=h.key _ hy
  exact⟨z,by simp[h1],h2⟩
 rw[List.mem_singleton] at hy;subst hy
 exact⟨x,by simp,rfl⟩
def fV(i j:Nat):Value→Int
 | .agg ⟨l⟩=>(match l[i]? with
  |some (.int _ n)=>if n=(j:Int)+1 then 1 else 0
  |_=>0)
 |_=>0
def tK(i j:Nat)(l:List MapEntry):Int:=(l.map fun e=>fV i j e.key*Kg e.val).sum
theorem ae2{F:List (P4×Value)}{es:Array MapEntry}(h:uw JL F es ck)(i j:Nat):tK i j es.toList=U8 (fun k=>fV i j (JL k)) F:=by
 have h1:=congrArg (List.map fun p:Value×Value=>fV i j p.1*Kg p.2) h.1
 simp only[List.map_map] at h1
 unfold tK U8
 exact congrArg List.sum h1
theorem Q0(i j:Nat):∀ {l:List MapEntry} {e:MapEntry},(l.map (·.born)).Nodup→e∈l→tK i j l=fV i j e.key*Kg e.val+tK i j (l.filter fun x=> !decide (x.born=e.born))
 | [],_,_,h=>by cases h
 |x::l,e,hn,h=>by
  simp only[List.map_cons,List.nodup_cons] at hn
  rcases List.mem_cons.1 h with rfl|h
  ·have:l.filter (fun y=> !decide (y.born=e.born))=l:=by
    refine List.filter_eq_self.2 fun y hy=>?_
    have:y.born≠e.born:=fun h=>hn.1 (h▸List.mem_map_of_mem hy)
    simp[this]
   rw[List.filter_cons_of_neg (by simp),this];rfl
  have dQ:x.born≠e.born:=fun k=>hn.1 (k▸List.mem_map_of_mem h)
  rw[List.filter_cons_of_pos (by simp[dQ])]
  have:=Q0 i j hn.2 h
  simp only[tK,List.map_cons,List.sum_cons] at this ⊢
  omega
theorem V6(es:Array MapEntry)(seen:List Nat)(b:Nat):cQ es (seen++[b])=(cQ es seen).filter fun x=> !decide (x.born=b):=by
 simp only[cQ,List.filter_filter]
 refine List.filter_congr fun x _=>?_
 simp only[List.contains_eq_mem,List.mem_append,List.mem_singleton,Bool.decide_or,Bool.not_or]
 rw[Bool.and_comm]
theorem LP{F:List (P4×Value)}{es:Array MapEntry}(h:uw JL F es ck){e:MapEntry}(he:e∈cQ es seen)(i j:Nat):tK i j (cQ es seen)=fV i j e.key*Kg e.val+tK i j (cQ es (seen++[e.born])):=by
 rw[V6]
 exact Q0 i j ((List.filter_sublist.map _).nodup h.2.1) he
theorem asV(i j:Nat)(v:Value):fV i j v=0∨fV i j v=1:=by
 unfold fV
 split<;>try exact .inl rfl
 split<;>try exact .inl rfl
 split<;>simp
theorem QZ{i j:Nat}:∀ {l:List MapEntry},(∀e∈l,0≤Kg e.val)→0≤tK i j l
 | [],_=>Int.le_refl _
 |x::l,h=>by
  have h1:=QZ (i:=i) (j:=j) (l:=l) fun e he=>h e (List.mem_cons_of_mem _ he)
  have h2:=h x List.mem_cons_self
  simp only[tK,List.map_cons,List.sum_cons] at h1 ⊢
  rcases asV i j x.key with h3|h3<;>rw[h3]<;>omega
theorem amZ{F:List (P4×Value)}{zs:List aj}(h:CF F zs){es:Array MapEntry}(hE:uw JL F es ck):∀e∈cQ es seen,0≤Kg e.val:=fun e he=>by
 have h1:e∈es.toList:=(List.mem_filter.1 he).1
 have h2:(e.key,e.val)∈es.toList.map (fun e=>(e.key,e.val)):=List.mem_map_of_mem (f:=fun e:MapEntry=>(e.key,e.val)) h1
 rw[hE.1] at h2
 obtain⟨y,h3,h4⟩:=List.mem_map.1 h2
 obtain⟨n,h5,h6,_⟩:=h.val _ h3
 simp only[Prod.mk.injEq] at h4
 rw[←h4.2,h5];exact h6
theorem aaw(x:aj)(j:Nat)(hi:i <4):fV i j (JL (pk x))=if pI x i=(j:Int)+1 then 1 else 0:=by
 rcases BM hi with rfl|rfl|rfl|rfl<;>rfl
theorem Yx(p:α→Prop)[DecidablePred p]:∀l:List α,(l.map fun x=>if p x then (1:Int) else 0).sum=((l.filter fun x=>decide (p x)).length:Int)
 | []=>rfl
 |x::l=>by
  rw[List.map_cons,List.sum_cons,Yx p l]
  by_cases h:p x
  ·rw[if_pos h,List.filter_cons_of_pos (by simpa using h),List.length_cons];omega
  rw[if_neg h,List.filter_cons_of_neg (by simpa using h)];omega
theorem CF.total{F:List (P4×Value)}{zs:List aj}(h:CF F zs){es:Array MapEntry}(hE:uw JL F es ck)(j:Nat)(hi:i <4):tK i j (cQ es [])=(az zs).c i j:=by
 rw[DU,ae2 hE,h.sum,ae1]
 simp only[aaw _ j hi]
 exact Yx (fun x=>pI x i=(j:Int)+1) zs
theorem ad7{z:aj}(h:(z.w0==0&&(z.w1==0&&(z.w2==0&&(z.w3==0&&true))))=true)(i:Nat):pI z i=0:=by
 simp only[Bool.and_eq_true,beq_iff_eq] at h
 match i with
 |0=>exact h.1
 |1=>exact h.2.1
 |2=>exact h.2.2.1
 |_+3=>exact h.2.2.2.1
def Gk(m:fH)(S T:Nat→Nat→Int):Prop:=∀i j,i <4→j <4→0≤m.c i j∧m.c i j+S i j=T i j
theorem Gk.init{F:List (P4×Value)}{zs:List aj}(h:CF F zs){es:Array MapEntry}(hE:uw JL F es ck):Gk ⟨fun _ _=>0⟩ (fun i j=>tK i j (cQ es [])) (az zs).c:=fun i j hi _=>⟨Int.le_refl _,by show 0+tK i j (cQ es [])=_;rw[h.total hE j hi];exact Int.zero_add _⟩
def inS(z:aj)(n:Int)(q:Nat)(R:Nat→Nat→Int):Nat→Nat→Int:=fun i j=>(if i <q then 0 else fV i j (JL (pk z))*n)+R i j
theorem Gk.zero{m:fH}{z:aj}{n:Int}{es:Array MapEntry}{ck:Nat}{F:List (P4×Value)}{T:Nat→Nat→Int}{seen:List Nat}{e:MapEntry}(hE:uw JL F es ck)(he:e∈cQ es seen)(hk:e.key=JL (pk z))(hz:∀i,pI z i=0)(h:Gk m (fun i j=>tK i j (cQ es seen)) T):Gk m (fun i j=>tK i j (cQ es (seen++[e.born]))) T:=fun i j hi hj=>by
 have h1:=h i j hi hj
 have h2:=LP hE he i j
 rw[hk,aaw z j hi,if_neg (by rw[hz];omega),Int.zero_mul,Int.zero_add] at h2
 dsimp only at h1 ⊢
 rw[h2] at h1;exact h1
theorem Gk.open_{m:fH}{z:aj}{es:Array MapEntry}{F:List (P4×Value)}{e:MapEntry}(hE:uw JL F es ck)(he:e∈cQ es seen)(hk:e.key=JL (pk z))(hv:e.val= zI n)(h:Gk m (fun i j=>tK i j (cQ es seen)) T):Gk m (inS z n 0 fun i j=>tK i j (cQ es (seen++[e.born]))) T:=fun i j hi hj=>by
 have h1:=h i j hi hj
 have h2:=LP hE he i j
 rw[hk,hv] at h2
 simp only[Kg] at h2
 simp only[inS,if_neg (Nat.not_lt_zero i)]
 dsimp only at h1
 rw[h2] at h1;exact h1
theorem Gk.close{m:fH}{z:aj}(h:Gk m (inS z n 4 R) T):Gk m R T:=fun i j hi hj=>by
 have h1:=h i j hi hj
 simp only[inS,if_pos hi,Int.zero_add] at h1
 exact h1
theorem Gk.skip{m:fH}{z:aj}{q:Nat}(h:Gk m (inS z n q R) T)(hq:¬pI z q>0):Gk m (inS z n (q+1) R) T:=fun i j hi hj=>by
 have h1:=h i j hi hj
 simp only[inS] at h1 ⊢
 by_cases e:i=q
 ·subst e
  rw[if_neg (Nat.lt_irrefl _),aaw z j hi,if_neg (by omega),Int.zero_mul] at h1
  rw[if_pos (Nat.lt_succ_self _)];exact h1
 by_cases e2:i <q
 ·rw[if_pos e2] at h1;rw[if_pos (by omega)];exact h1
 rw[if_neg e2] at h1;rw[if_neg (by omega)];exact h1
theorem Gk.add{m:fH}{z:aj}{q:Nat}(h:Gk m (inS z n q R) T)(hn:0≤n)(hq:pI z q>0)(hq4:q <4):Gk (sV m q (pI z q-1).toNat (m.c q (pI z q-1).toNat+n)) (inS z n (q+1) R) T:=fun i j hi hj=>by
 have h1:=h i j hi hj
 simp only[inS,sV] at h1 ⊢
 by_cases e:i=q
 ·subst e
  rw[if_neg (Nat.lt_irrefl _),aaw z j hi] at h1
  rw[if_pos (Nat.lt_succ_self _)]
  by_cases e2:j=(pI z i-1).toNat
  ·rw[if_pos (by omega)] at h1
   rw[if_pos ⟨rfl,e2⟩,←e2];omega
  rw[if_neg (by omega)] at h1
  rw[if_neg (by omega)];omega
 rw[if_neg (c:=i=q∧j=(pI z q-1).toNat) (by omega)]
 by_cases e2:i <q
 ·rw[if_pos e2] at h1;rw[if_pos (by omega)];exact h1
 rw[if_neg e2] at h1;rw[if_neg (by omega)];exact h1
theorem Gk.bound{m:fH}{z:aj}{q:Nat}(h:Gk m (inS z n q R) T)(hR:∀i j,0≤R i j)(hn:0≤n)(hi:i <4)(hj:j <4):0≤m.c i j∧m.c i j≤T i j:=by
 have h1:=h i j hi hj
 have h2:=hR i j
 simp only[inS] at h1
 split at h1
 ·omega
 rcases asV i j (JL (pk z)) with h3|h3<;>rw[h3] at h1<;>omega
theorem Gk.fin{m:fH}{zs:List aj}{es:Array MapEntry}(h:Gk m (fun i j=>tK i j (cQ es seen)) (az zs).c)(he:cQ es seen=[]):AV m=AV (az zs):=by
 have k (i j:Nat) (hi:i <4) (hj:j <4):m.c i j=(az zs).c i j:=by
  have:=(h i j hi hj).2
  rw[he] at this
  simpa [tK] using this
 simp only[AV,k 0 0 (by decide) (by decide),k 0 1 (by decide) (by decide),k 0 2 (by decide) (by decide),k 0 3 (by decide) (by decide),k 1 0 (by decide) (by decide),k 1 1 (by decide) (by decide),k 1 2 (by decide) (by decide),k 1 3 (by decide) (by decide),k 2 0 (by decide) (by decide),k 2 1 (by decide) (by decide),k 2 2 (by decide) (by decide),k 2 3 (by decide) (by decide),k 3 0 (by decide) (by decide),k 3 1 (by decide) (by decide),k 3 2 (by decide) (by decide),k 3 3 (by decide) (by decide)]
theorem avi{z:aj}{q:Nat}(h:q <4):nth [zI z.w0,zI z.w1,zI z.w2,zI z.w3] ((q:Int).toNat*1)=some (zI (pI z q)):=by
 rcases BM h with rfl|rfl|rfl|rfl<;>rfl
theorem agF{m:fH}{a:Nat}{j:Int}(h:a <4)(k:0≤j∧j <4):nth (AV m) (0+(a:Int).toNat*4+j.toNat*1)=some (zI (m.c a j.toNat)):=by
 obtain⟨b,rfl⟩:=Int.eq_ofNat_of_zero_le k.1
 exact BK h (by omega)
theorem agE{m:fH}{a:Nat}{j v:Int}(h:a <4)(k:0≤j∧j <4):dK (AV m) (0+(a:Int).toNat*4+j.toNat*1) [zI v]=AV (sV m a j.toNat v):=by
 obtain⟨b,rfl⟩:=Int.eq_ofNat_of_zero_le k.1
 exact aof h (by omega)
theorem agG{m:fH}{a:Nat}{j:Int}{v:Value}(h:a <4)(k:0≤j∧j <4):Nat.ble ((0+(a:Int).toNat*4+j.toNat*1)+[v].length) (AV m).length=true:=by
 obtain⟨b,rfl⟩:=Int.eq_ofNat_of_zero_le k.1
 exact aog h (by omega)
theorem aY9(z:aj):EqV zT 136 (v4 z.w0 z.w1 z.w2 z.w3) (v4 0 0 0 0) (z.w0==0&&(z.w1==0&&(z.w2==0&&(z.w3==0&&true)))):=I0 (aKF (dep:=9998) (mE Tryz.typeInfo136 Tryz.underlying136 rfl rfl rfl rfl rfl rfl) kJ _ _ _ _ _ _ _ _)
theorem aS3:nv zT 136:=by unfold nv;kernel_rfl
theorem Sb{F F1:List (P4×Value)}{k:P4}(h1:((∃u,tz k F 0=some u)∧F1=F)∨(tz k F 0=none∧F1=F++[(k,zI 0)]))(hl:Ox (zI 0) false k F= zI n):Ox (zI 0) false k F1= zI n:=by
 rcases h1 with ⟨_,rfl⟩| ⟨hf,rfl⟩
 ·exact hl
 simp only[Ox,lkM,Cd (v:= zI 0) hf]
 simpa [Ox,lkM,hf] using hl
theorem ahx{v:Value}{zs:List aj}(hl:bJ ro v 8 cY zs)(hn:zs.length≤100000)(hp:∀x∈zs,∀q,0≤pI x q∧pI x q≤4):ee zT 80 [v] ro [] (fun r Y=>r= .agg ⟨AV (az zs)⟩∧Y=[]):=by
 obtain⟨fU,sg,sb,eZ,rfl,uz,lA,lZ⟩:=hl
 refine zE<|zD 2<|jn fun b2=>zD 3<|jmk JL fun Hq L11 aiC=>zD 10<|dH [1,1,0,1,0,0] [] (fun(zz:Nat×(List (P4×Value))×Cells)=>[(2,zP b2),(3,(.map (some Hq))),(12,.slice fU zs.length eZ),(13,zI (zs.length:Int)),(14,zI (zz.1:Int))]) (fun(zz:Nat×(List (P4×Value))×Cells)=>[.l zz.2.2,.b b2 (.cells ⟨[zI 0,zI 0,zI 0,zI 0,zI 0,zI 0,zI 0,zI 0,zI 0,zI 0,zI 0,zI 0,zI 0,zI 0,zI 0,zI 0]⟩ 158 (0,0))]) (fun(zz:Nat×(List (P4×Value))×Cells)=>zz.1≤zs.length∧j9 Hq JL zz.2.1 zz.2.2∧CF zz.2.1 (zs.take zz.1)) (fun(zz:Nat×(List (P4×Value))×Cells)=>zs.length-zz.1) (⟨0,[],L11⟩) ⟨by dsimp only;omega,aiC,CF.nil⟩ [0,1] ?_
 rintro⟨k,F,LM⟩ hI K1 bP rest
 dsimp only at hI
 refine zD 5<|zJ 15 ((k:Int) <(zs.length:Int)) (fun h1=>?_) fun h1=>?_
 ·
  refine zD 6 ?_
  obtain⟨C6,pR⟩:=zG zs k
  refine fK eZ 8 lA pR<|jl 0 (lZ _ _ pR)<|jn fun b5=>jd 2 [0] ?_
  obtain⟨nk,hlk,hnk⟩:=hI.2.2.look (pk C6)
  have MU:(zs.take k).length=k:=by rw[List.length_take];omega
  refine jd 4 [0]<|ze [3,5] ⟨fun z2 t3 qZ=>?_,fun z5 t6 O6=>?_,trivial⟩
  ·
   refine jlu (kv:=JL) (F:=F) (r:=Hq) (K:=136) (pk C6) (zI 0) false [1] LM ahc (fun s _ hZ=>hI.2.1.has hZ)<|dW qZ [0,1,2]<|jw 3 (zI nk) hlk<|zW (nk+1)<|aP 5 fun UF U3 W6=>jme (kv:=JL) (F:=F) (r:=Hq) (L:=LM) 1 (pk C6) ahc kJ hI.2.1 fun Fm4 bm4 cm4 Lm4 blm hm4=>eW W6 []<|aP 6 fun UE U2 O5=>zD 1<|dW O5 [0,1,2]<|aP 7 fun GW G9 xv=>jes 0 (zI (nk+1)) hm4 fun Lm7 hm7=>eB xv<|zD 2<|zW ((k:Int)+1)<|zD 2<|zF bP (⟨k+1,_,Lm7⟩) ⟨hm7,by dsimp only;rw[gH pR];exact hI.2.2.upd (by assumption) hlk hnk⟩ [0,2]
  refine jme (kv:=JL) (F:=F) (r:=Hq) (L:=LM) 1 (pk C6) ahc kJ hI.2.1 fun Fm9 bm9 cm9 Lm9 aJG hm9=>eB O6<|ze [3,6] ⟨fun z11 t12 Pb=>?_,fun z14 t15 KM=>?_,trivial⟩
  ·
   refine jlu (kv:=JL) (F:=Fm9) (r:=Hq) (K:=136) (pk C6) (zI 0) false [0] Lm9 ahc (fun s _ hZ=>hm9.own.has hZ)<|eB Pb<|jw 3 (zI nk) (Sb aJG hlk)<|zW (nk+1)<|aP 6 fun ad6 aeS Pa=>zD 1<|dW Pa [0,1,2]<|aP 7 fun aqX arj Xb=>jes 0 (zI (nk+1)) hm9 fun bao aHb=>eB Xb<|zD 2<|zW ((k:Int)+1)<|zD 2<|zF bP (⟨k+1,_,bao⟩) ⟨aHb,by dsimp only;rw[gH pR];exact hI.2.2.upd (by assumption) hlk hnk⟩ [0,2]
  refine zD 1<|eB KM<|aP 3 fun aqW ari Xa=>jlu (kv:=JL) (F:=Fm9) (r:=Hq) (K:=136) (pk C6) (zI 0) false [0] Lm9 ahc (fun s _ hZ=>hm9.own.has hZ)<|eB Xa<|jw 3 (zI nk) (Sb aJG hlk)<|zW (nk+1)<|aP 7 fun aBC aCP ajz=>jes 0 (zI (nk+1)) hm9 fun ban axL=>eB ajz<|zD 2<|zW ((k:Int)+1)<|zD 2<|zF bP (⟨k+1,_,ban⟩) ⟨axL,by dsimp only;rw[gH pR];exact hI.2.2.upd (by assumption) hlk hnk⟩ [0,2]
 refine zD 4<|jn fun b6=>jf [1] LM (fun bgU awY ax7=>?_)
 have hCF:CF F zs:=by have:=hI.2.2;rwa[show k=zs.length by omega,List.take_length] at this
 obtain⟨C3,J6,rfl,hE1⟩:=hI.2.1
 refine zD 5<|jmR (ax7 _ (.head _)) fun r27=>jg 0 [.b r27 (vQ Hq J6 [])]<|zD 2<|dH [1,1,1,1,0,1,0,0] [] (fun(zz:(List Nat)×fH)=>[(2,zP b2),(6,zP b6),(27,zP r27)]) (fun zz=>[.b r27 (vQ Hq J6 zz.1),.b b6 (.cells ⟨[zI (zz.2.c 0 0),zI (zz.2.c 0 1),zI (zz.2.c 0 2),zI (zz.2.c 0 3),zI (zz.2.c 1 0),zI (zz.2.c 1 1),zI (zz.2.c 1 2),zI (zz.2.c 1 3),zI (zz.2.c 2 0),zI (zz.2.c 2 1),zI (zz.2.c 2 2),zI (zz.2.c 2 3),zI (zz.2.c 3 0),zI (zz.2.c 3 1),zI (zz.2.c 3 2),zI (zz.2.c 3 3)]⟩ 158 (0,0)),.b b2 (.cells ⟨[zI 0,zI 0,zI 0,zI 0,zI 0,zI 0,zI 0,zI 0,zI 0,zI 0,zI 0,zI 0,zI 0,zI 0,zI 0,zI 0]⟩ 158 (0,0))]) (fun zz=>Gk zz.2 (fun i j=>tK i j (cQ C3 zz.1)) (az zs).c) (fun zz=>(cQ C3 zz.1).length) (⟨[],⟨fun _ _=>0⟩⟩) (Gk.init hCF hE1) [0,1,2] ?_
 rintro⟨seen,m⟩ hI K21 apI rest
 dsimp only at hI
 refine zD 2<|jmN (it:=r27) (kv:=JL) (seen:=seen) 0 (ax7 _ (.head _)) hE1 (fun k28 v28 e28 aHK apv ax5 aGg=>?_) (fun awx=>?_)
 ·
  obtain⟨HN,asm,aG1⟩:=hCF.val _ aHK
  obtain⟨kY,awx,hkz⟩:=hCF.key _ aHK
  dsimp only at asm hkz
  subst asm
  subst hkz
  have hpz:=hp kY awx
  have cO:=HX apv
  refine jg 0 [.b r27 (vQ Hq J6 (seen++[e28.born]))]<|zD 8<|jmE (it:=r27) 0 (ax7 _ (.head _)) hE1 apv ax5 aGg<|jg 0 [.b r27 (vQ Hq J6 (seen++[e28.born]))]<|zD 2<|jn fun b7=>jd 8 [0,0]<|jeq aS3 (aY9 kY)<|zD 1<|js 35 (kY.w0==0&&(kY.w1==0&&(kY.w2==0&&(kY.w3==0&&true)))) (fun h21=>?_) (fun h21=>?_)
  ·
   refine zD 2<|bF apI (⟨(seen++[e28.born]),m⟩) (hI.zero (n:=0) hE1 apv ax5 (ad7 (by assumption))) cO [1,2,3] (Sub.refl _)
  refine jd 8 [0]<|dH [1,1,1,1,0,1,0,0,1,1,0,1,1,1,0,0] [K21] (fun(zz:Nat×fH)=>[(2,zP b2),(6,zP b6),(8,zI HN),(27,zP r27),(36,.agg ⟨[zI kY.w0,zI kY.w1,zI kY.w2,zI kY.w3]⟩),(37,zI (zz.1:Int))]) (fun zz=>[.b r27 (vQ Hq J6 (seen++[e28.born])),.b b6 (.cells ⟨[zI (zz.2.c 0 0),zI (zz.2.c 0 1),zI (zz.2.c 0 2),zI (zz.2.c 0 3),zI (zz.2.c 1 0),zI (zz.2.c 1 1),zI (zz.2.c 1 2),zI (zz.2.c 1 3),zI (zz.2.c 2 0),zI (zz.2.c 2 1),zI (zz.2.c 2 2),zI (zz.2.c 2 3),zI (zz.2.c 3 0),zI (zz.2.c 3 1),zI (zz.2.c 3 2),zI (zz.2.c 3 3)]⟩ 158 (0,0)),.b b7 (.cells ⟨[zI kY.w0,zI kY.w1,zI kY.w2,zI kY.w3]⟩ 136 (0,0)),.b b2 (.cells ⟨[zI 0,zI 0,zI 0,zI 0,zI 0,zI 0,zI 0,zI 0,zI 0,zI 0,zI 0,zI 0,zI 0,zI 0,zI 0,zI 0]⟩ 158 (0,0))]) (fun zz=>zz.1≤4∧Gk zz.2 (inS kY HN zz.1 (fun i j=>tK i j (cQ C3 (seen++[e28.born])))) (az zs).c) (fun zz=>4-zz.1) (⟨0,m⟩) ⟨by dsimp only;omega,hI.open_ hE1 apv ax5 aGg⟩ [1,2,0,3] ?_
  rintro⟨q,m⟩ hJ K22 aJB rest
  dsimp only at hJ
  refine zD 5<|zJ 38 ((q:Int) <4) (fun GP=>?_) fun GP=>?_
  ·
   refine zD 7<|jai (l:=[zI kY.w0,zI kY.w1,zI kY.w2,zI kY.w3]) (q:Int) 4 1 false (by omega) (v:= zI (pI kY q)) (show nth [_,_,_,_] _=_ from avi (by omega))<|zD 8<|zJ 42 ((pI kY q)>0) (fun CZ=>?_) fun CZ=>?_
   ·
    refine zD 4<|ja ((pI kY q)-1) (by have:=hpz q;omega) ?_
    refine JM (b:=b6) (off:=0) (len:=4) (sz:=4) (q:Int) (by omega)<|JM (b:=b6) (off:=0+(q:Int).toNat*4) (len:=4) (sz:=1) ((pI kY q)-1) (by have:=hpz q;omega) ?_
    refine n7 (b:=b6) (off:=0+(q:Int).toNat*4+((pI kY q)-1).toNat*1) (m:=1) (vs:=[zI (m.c q (pI kY q-1).toNat)]) 0 [1] [(b6,.cells ⟨[zI (m.c 0 0),zI (m.c 0 1),zI (m.c 0 2),zI (m.c 0 3),zI (m.c 1 0),zI (m.c 1 1),zI (m.c 1 2),zI (m.c 1 3),zI (m.c 2 0),zI (m.c 2 1),zI (m.c 2 2),zI (m.c 2 3),zI (m.c 3 0),zI (m.c 3 1),zI (m.c 3 2),zI (m.c 3 3)]⟩ 158 (0,0))] (fun s _ hZ=>qI (hZ _ (.head _)) (agF (m:=m) (by omega) (by have:=hpz q;omega))) ?_
    refine zD 1<|ja ((m.c q (pI kY q-1).toNat)+HN) (by have h7:=hJ.2.bound (fun i j=>QZ (amZ hCF hE1)) aG1.1 (i:=q) (j:=(pI kY q-1).toNat) (by omega) (by have:=hpz q;omega);have h8:=Ez zs q (pI kY q-1).toNat;omega) ?_
    refine JM (b:=b6) (off:=0) (len:=4) (sz:=4) (q:Int) (by omega)<|JM (b:=b6) (off:=0+(q:Int).toNat*4) (len:=4) (sz:=1) ((pI kY q)-1) (by have:=hpz q;omega) ?_
    refine aP 10 fun aBA aCN ajx=>jsx 1 b6 (0+(q:Int).toNat*4+((pI kY q)-1).toNat*1) [zI (m.c 0 0),zI (m.c 0 1),zI (m.c 0 2),zI (m.c 0 3),zI (m.c 1 0),zI (m.c 1 1),zI (m.c 1 2),zI (m.c 1 3),zI (m.c 2 0),zI (m.c 2 1),zI (m.c 2 2),zI (m.c 2 3),zI (m.c 3 0),zI (m.c 3 1),zI (m.c 3 2),zI (m.c 3 3)] [zI ((m.c q (pI kY q-1).toNat)+HN)] 158 (by intro v hv;rw[List.mem_singleton] at hv;subst hv;rfl) (agG (m:=m) (by omega) (by have:=hpz q;omega)) ?_
    refine jmw 0 [.b b6 (.cells ⟨[zI ((sV m q (pI kY q-1).toNat (m.c q (pI kY q-1).toNat+HN)).c 0 0),zI ((sV m q (pI kY q-1).toNat (m.c q (pI kY q-1).toNat+HN)).c 0 1),zI ((sV m q (pI kY q-1).toNat (m.c q (pI kY q-1).toNat+HN)).c 0 2),zI ((sV m q (pI kY q-1).toNat (m.c q (pI kY q-1).toNat+HN)).c 0 3),zI ((sV m q (pI kY q-1).toNat (m.c q (pI kY q-1).toNat+HN)).c 1 0),zI ((sV m q (pI kY q-1).toNat (m.c q (pI kY q-1).toNat+HN)).c 1 1),zI ((sV m q (pI kY q-1).toNat (m.c q (pI kY q-1).toNat+HN)).c 1 2),zI ((sV m q (pI kY q-1).toNat (m.c q (pI kY q-1).toNat+HN)).c 1 3),zI ((sV m q (pI kY q-1).toNat (m.c q (pI kY q-1).toNat+HN)).c 2 0),zI ((sV m q (pI kY q-1).toNat (m.c q (pI kY q-1).toNat+HN)).c 2 1),zI ((sV m q (pI kY q-1).toNat (m.c q (pI kY q-1).toNat+HN)).c 2 2),zI ((sV m q (pI kY q-1).toNat (m.c q (pI kY q-1).toNat+HN)).c 2 3),zI ((sV m q (pI kY q-1).toNat (m.c q (pI kY q-1).toNat+HN)).c 3 0),zI ((sV m q (pI kY q-1).toNat (m.c q (pI kY q-1).toNat+HN)).c 3 1),zI ((sV m q (pI kY q-1).toNat (m.c q (pI kY q-1).toNat+HN)).c 3 2),zI ((sV m q (pI kY q-1).toNat (m.c q (pI kY q-1).toNat+HN)).c 3 3)]⟩ 158 (0,0))] (L:=[(b6,.cells ⟨dK [zI (m.c 0 0),zI (m.c 0 1),zI (m.c 0 2),zI (m.c 0 3),zI (m.c 1 0),zI (m.c 1 1),zI (m.c 1 2),zI (m.c 1 3),zI (m.c 2 0),zI (m.c 2 1),zI (m.c 2 2),zI (m.c 2 3),zI (m.c 3 0),zI (m.c 3 1),zI (m.c 3 2),zI (m.c 3 3)] (0+(q:Int).toNat*4+((pI kY q)-1).toNat*1) [zI ((m.c q (pI kY q-1).toNat)+HN)]⟩ 158 (0,0))]) (by rw[agE (m:=m) (by omega) (by have:=hpz q;omega)];rfl) ?_
    refine eW ajx []<|zD 2<|zW ((q:Int)+1)<|zD 2<|zF aJB (⟨q+1,(sV m q (pI kY q-1).toNat (m.c q (pI kY q-1).toNat+HN))⟩) (hJ.2.add aG1.1 (by assumption) (by omega)) [1,0,2,3]
   refine zD 3<|zW ((q:Int)+1)<|zD 2<|zF aJB (⟨q+1,m⟩) (hJ.2.skip (by assumption)) [0,1,2,3]
  refine zD 2<|bF apI (⟨(seen++[e28.born]),m⟩) (Gk.close (z:=kY) (n:=HN) (by have:=hJ.2;rwa[show q=4 by omega] at this)) cO [0,1,3] (Sub.refl _)
 refine jg 0 [.b r27 (vQ Hq J6 seen)]<|jd 11 [1,2]<|aN q0.a (.agg ⟨[zI (m.c 0 0),zI (m.c 0 1),zI (m.c 0 2),zI (m.c 0 3),zI (m.c 1 0),zI (m.c 1 1),zI (m.c 1 2),zI (m.c 1 3),zI (m.c 2 0),zI (m.c 2 1),zI (m.c 2 2),zI (m.c 2 3),zI (m.c 3 0),zI (m.c 3 1),zI (m.c 3 2),zI (m.c 3 3)]⟩) [2] [] [] awY ⟨_,_,rfl,rfl,by rw[←hI.fin awx],rfl⟩
theorem I5:rJ:=fun hl hn hp=>ahx hl hn hp
theorem Cb:∀(l:List Int) (a:Int),l.foldl min a=a∨l.foldl min a∈l
 | [],_=> .inl rfl
 |y::l,a=>by
  simp only[List.foldl_cons]
  rcases Cb l (min a y) with h|h
  ·rw[h]
   rcases(by omega:min a y=a∨min a y=y) with e|e
   ·exact .inl e
   rw[e];exact .inr List.mem_cons_self
  exact .inr (List.mem_cons_of_mem _ h)
theorem HP:∀ {l:List Int},l≠[]→iB l∈l
 | [],h=>absurd rfl h
 |y::l,_=>by
  show l.foldl min y∈_
  rcases Cb l y with h|h
  ·rw[h];exact List.mem_cons_self
  exact List.mem_cons_of_mem _ h
theorem ym{l m:List Int}(h:l.Perm m)(hl:l≠[]):iB l=iB m:=by
 have h1:=Om (h.mem_iff.1 (HP hl))
 have h2:=Om (h.mem_iff.2 (HP (fun e=>hl (by rw[e] at h;exact h.eq_nil))))
 omega
theorem IK:∀(l:List Int) (a:Int),a≤l.foldl max a∧∀x∈l,x≤l.foldl max a
 | [],a=>⟨Int.le_refl _,fun _ h=>(by cases h)⟩
 |y::l,a=>by
  obtain⟨h1,h2⟩:=IK l (max a y)
  refine⟨by simp only[List.foldl_cons];omega,fun x hx=>?_⟩
  rcases List.mem_cons.1 hx with rfl|hx
  ·simp only[List.foldl_cons];omega
  exact h2 x hx
theorem Cc:∀(l:List Int) (a:Int),l.foldl max a=a∨l.foldl max a∈l
 | [],_=> .inl rfl
 |y::l,a=>by
  simp only[List.foldl_cons]
  rcases Cc l (max a y) with h|h
  ·rw[h]
   rcases(by omega:max a y=a∨max a y=y) with e|e
   ·exact .inl e
   rw[e];exact .inr List.mem_cons_self
  exact .inr (List.mem_cons_of_mem _ h)
theorem Zv{l:List Int}{x:Int}(h:x∈l):x≤lT l:=by
 cases l with
 |nil=>cases h
 |cons y l=>
  rcases List.mem_cons.1 h with rfl|h
  ·exact(IK l _).1
  exact(IK l _).2 x h
theorem R8:∀ {l:List Int},l≠[]→lT l∈l
 | [],h=>absurd rfl h
 |y::l,_=>by
  show l.foldl max y∈_
  rcases Cc l y with h|h
  ·rw[h];exact List.mem_cons_self
  exact List.mem_cons_of_mem _ h
theorem MD{l m:List Int}(h:l.Perm m)(hl:l≠[]):lT l=lT m:=by
 have h1:=Zv (h.mem_iff.1 (R8 hl))
 have h2:=Zv (h.mem_iff.2 (R8 (fun e=>hl (by rw[e] at h;exact h.eq_nil))))
 omega
theorem yn{f:α→β}{l:List α}(h:l≠[]):l.map f≠[]:=fun e=>h (List.map_eq_nil_iff.1 e)
abbrev fsT:List eY:=[⟨2,1,true⟩,⟨0,1,true⟩]
theorem cC(h:0≤n∧n≤4):kg (aZ n):=as1 (fs:=[]) h (by decide) (by simp) .nil
theorem cV:fq (aZ n):=as0 (fs:=[]) (by decide) (by simp)
theorem cCT:kg (Fq 2 fsT):=as1 (by decide) (by decide) (by decide) (by decide)
theorem cVT:fq (Fq 2 fsT):=as0 (by decide) (by decide)
theorem rT:cZ (aZ 2)=4:=by kernel_rfl
theorem rL:iB ((db (aZ 1) (bw (aZ 1)) (fun _=>true) (ax (aZ 1))).map nC)=2:=by kernel_rfl
theorem rLn:(db (aZ 1) (bw (aZ 1)) (fun _=>true) (ax (aZ 1))).length=0→False:=by
 have e:Nat.beq (db (aZ 1) (bw (aZ 1)) (fun _=>true) (ax (aZ 1))).length 0=false:=by kernel_rfl
 intro h;rw[h] at e;cases e
theorem r1n:(db (aZ 1) (bw (aZ 1)) (bV (aZ 1).gone (aZ 1).new (aZ 1).af) (ax (aZ 1))).length=0→False:=by
 have e:Nat.beq (db (aZ 1) (bw (aZ 1)) (bV (aZ 1).gone (aZ 1).new (aZ 1).af) (ax (aZ 1))).length 0=false:=by kernel_rfl
 intro h;rw[h] at e;cases e
theorem r2n:(db (aZ 2) (bw (aZ 2)) (bV (aZ 2).gone (aZ 2).new (aZ 2).af) (ax (aZ 2))).length=0→False:=by
 have e:Nat.beq (db (aZ 2) (bw (aZ 2)) (bV (aZ 2).gone (aZ 2).new (aZ 2).af) (ax (aZ 2))).length 0=false:=by kernel_rfl
 intro h;rw[h] at e;cases e
theorem rM1:iB ((db (aZ 2) (bw (aZ 2)) (bV (aZ 2).gone (aZ 2).new (aZ 2).af) (ax (aZ 2))).map fun x=>x.af)=0:=by kernel_rfl
theorem rM2:lT ((db (aZ 2) (bw (aZ 2)) (bV (aZ 2).gone (aZ 2).new (aZ 2).af) (ax (aZ 2))).map fun x=>x.af)=2:=by kernel_rfl
theorem rU:p9 (az (db (aZ 1) (bw (aZ 1)) (bV (aZ 1).gone (aZ 1).new (aZ 1).af) (ax (aZ 1)))) (((db (aZ 1) (bw (aZ 1)) (bV (aZ 1).gone (aZ 1).new (aZ 1).af) (ax (aZ 1))).length:Nat):Int) (aZ 1).after.length (aZ 1).before.length=[[0,0],[2,1]]:=by kernel_rfl
theorem rW:NF (Fq 2 fsT) (ax (Fq 2 fsT))=some 1:=by kernel_rfl
theorem rL1:m9 1 4=[0]:=by kernel_rfl
theorem rA:(XT (adr (az (db (aZ 2) (bw (aZ 2)) (bV (aZ 2).gone (aZ 2).new (aZ 2).af) (ax (aZ 2)))) (((db (aZ 2) (bw (aZ 2)) (bV (aZ 2).gone (aZ 2).new (aZ 2).af) (ax (aZ 2))).length:Nat):Int) (aZ 2).after.length (aZ 2).before.length)).2.2=(2,0):=by kernel_rfl
theorem abE(hK:fO ro l (aZ 2)):Be zT 10 [.agg ⟨l⟩] ro [] (fun r Y=>r= .tuple ⟨[zI 4,zI 0]⟩∧Y=[]):=
 (Si hK (cC (by decide)) cV).mono fun v X h=>⟨by rw[h.1,rT];rfl,h.2⟩
theorem afw(hK:fO ro l (aZ 1)):Be zT 16 [.agg ⟨l⟩] ro [] (fun r Y=>r= .tuple ⟨[zI 2,zI 0]⟩∧Y=[]):=
 (ZE hK (cC (by decide)) cV).mono fun v X ⟨zs,m,e,hz,hY,hr,h⟩=>by
  rcases h with ⟨h,_⟩| ⟨h,hm,he⟩
  ·exact(rLn (by rw[←hz.length_eq,h];rfl)).elim
  exact⟨by rw[hr,hm,he,ym (hz.map nC) (yn h),rL],hY⟩
theorem ans(hK:fO ro l (aZ 1)):Be zT 50 [.agg ⟨l⟩] ro [] (fun r Y=>∃v,r= .tuple ⟨[v,zI 0]⟩∧∀aF,Knows aF Y→LL aF v [[0,0],[2,1]]):=
 (awg hK cV (kM (cC (by decide))) (tt hK (cC (by decide)) cV) I5).mono fun r X ⟨zs,v,e,hz,hr,h⟩=>by
  rcases h with ⟨h,_⟩| ⟨h,he,hl⟩
  ·exact(r1n (by rw[←hz.length_eq,h];rfl)).elim
  refine⟨v,by rw[hr,he],fun aF hk=>?_⟩
  have:=hl aF hk
  rwa[I8 hz,hz.length_eq,rU] at this
theorem afv(hK:fO ro l (aZ 2)):Be zT 20 [.agg ⟨l⟩] ro [] (fun r Y=>r= .tuple ⟨[.agg ⟨[zI 0,zI 2]⟩,zI 0]⟩∧Y=[]):=
 (aho hK cV (kM (cC (by decide))) (tt hK (cC (by decide)) cV)).mono fun r X ⟨zs,a,b,e,hz,hY,hr,h⟩=>by
  rcases h with ⟨h,_⟩| ⟨h,ha,hb,he⟩
  ·exact(r2n (by rw[←hz.length_eq,h];rfl)).elim
  exact⟨by rw[hr,ha,hb,he,ym (hz.map _) (yn h),MD (hz.map _) (yn h),rM1,rM2],hY⟩
theorem auP(hK:fO ro l (aZ 2)):Be zT 54 [.agg ⟨l⟩] ro [] (fun r Y=>∃a b,r= .tuple ⟨[zI a,zI b,zI 2,zI 0]⟩∧Y=[]):=
 (aTn hK cV (kM (cC (by decide))) (tt hK (cC (by decide)) cV) I5).mono fun r X ⟨zs,a,b,w,e,hz,hY,hr,h⟩=>by
  rcases h with ⟨h,_⟩| ⟨h,ha⟩
  ·exact(r2n (by rw[←hz.length_eq,h];rfl)).elim
  rw[I8 hz,hz.length_eq] at ha
  have h2:=congrArg (fun x:Int×Int×Int×Int=>x.2.2) ha
  dsimp only at h2
  rw[rA] at h2
  cases h2
  exact⟨a,b,hr,hY⟩
theorem afu(hK:fO ro l (Fq 2 fsT)):ee zT 51 [.agg ⟨l⟩] ro [] (fun r Y=>∃v,r= .tuple ⟨[v,zI 0]⟩∧aA v 1 3 aS [0] Y):=
 Fn.mono (avY hK cVT (kM cCT) (tt hK cCT cVT) (by decide)) fun en s' ⟨r,X,h1,h2,v,e,hr,h⟩=>⟨r,X,h1,h2,by
  rcases h with ⟨m,hm,ho,he⟩| ⟨hm,_⟩
  ·rw[rW] at hm;cases hm
   rw[rL1] at ho
   exact⟨v,by rw[hr,he],ho⟩
  rw[rW] at hm;cases hm⟩
theorem ag7{v4 vf:Value}{fa:Option Addr}{fs:List eY}(h:fO ro [v0,v1,.slice fa 0 fc,v3,v4,v5,v6,v7,zI 1,zI 1,zI n,vb] (aZ n))(hf:bJ ro vf 3 y6 fs):fO ro [v0,v1,.slice fa 0 fc,v3,v4,v5,v6,v7,zI 1,zI 1,zI n,vf] (Fq n fs):=by
 obtain⟨w0,w1,w3,w4,w5,w6,w7,wb,ga,gc,hv,e,h1,h2,h3,h4,h5,h6,h7,_⟩:=h
 cases e
 exact⟨_,_,_,_,_,_,_,_,_,_,hv,rfl,h1,h2,h3,h4,h5,h6,h7,hf⟩
theorem QL{v4:Value}{fa fb:Option Addr}{fn fd:Nat}(h:∀v∈[v0,v1,v3,v4,v5,v6,v7,vb],single v=true):∀v∈[v0,v1,.slice fa 0 fc,v3,v4,v5,v6,v7,zI 1,zI 1,zI 2,.slice fb fn fd],single v=true:=by
 simp only[List.mem_cons,List.not_mem_nil,or_false] at h ⊢
 rintro v (rfl|rfl|rfl|rfl|rfl|rfl|rfl|rfl|rfl|rfl|rfl|rfl)<;>first|rfl|exact h _ (by simp)
theorem LL.up{aF:Nat→Option Obj}{v:Value}(h:LL ro v W)(hs:Sub ro aF):LL aF v W:=by
 obtain⟨ws,h1,h2⟩:=h
 exact⟨ws,h1.up hs,h2.imp fun _ _ k=>k.up hs⟩
theorem aay(a b c d:Int):EqV zT 61 (.agg ⟨[zI a,zI b]⟩) (.agg ⟨[zI c,zI d]⟩) (a==c&&(b==d&&true)):=
 I0 (rk (dep:=9999) (mE Tryz.typeInfo61 Tryz.underlying61 rfl rfl rfl rfl rfl rfl) Tryz.stoodInHeld61 (.cons (by decide) (gR kJ rfl) (gR kJ rfl) (mb kJ _ _) (.cons (by decide) (gR kJ rfl) (gR kJ rfl) (mb kJ _ _) .nil)))
theorem an3:nv zT 61:=by unfold nv;kernel_rfl
theorem YQ:Be zT 14 [] ro [] (fun r Y=>r= .bool true∧Y=[]):=by
 refine xk av [] [] bp fun fr=>zD 6<|jc (vs:=[zI 2]) [] (Ns) ?_
 rintro _ Y16 ⟨l16,rfl,aXw,KM⟩
 refine jf [0] Y16 (fun ya cu iX=>?_)
 have apJ:=aXw _ iX
 refine GF (vs:=[(.agg ⟨l16⟩)]) [] (fun _ _ h=>h) (abE apJ) ?_
 rintro _ _ ⟨rfl,rfl⟩
 refine jg 0 []<|zD 8<|jc (vs:=[zI 1]) [] (Ns) ?_
 rintro _ Y21 ⟨l21,rfl,aXv,acK⟩
 refine jf [0] Y21 (fun ro6 kX Z6=>?_)
 have apI:=aXv _ Z6
 refine GF (vs:=[(.agg ⟨l21⟩)]) [] (fun _ _ h=>h) (ans apI) ?_
 rintro _ Y22 ⟨v22,rfl,aVt⟩
 refine zD 5<|jf [0] Y22 (fun ro9 px hk8=>?_)
 have aXy:=aVt _ hk8
 refine zD 3<|jc (vs:=[zI 2]) [] (Ns) ?_
 rintro _ Y26 ⟨xg,rfl,aXu,KL⟩
 refine jf [0] Y26 (fun aRc ao3 ax8=>?_)
 have aX8:=aXu _ ax8
 refine GF (vs:=[(.agg ⟨xg⟩)]) [] (fun _ _ h=>h) (afv aX8) ?_
 rintro _ _ ⟨rfl,rfl⟩
 refine jg 0 []<|zD 3<|jn fun b5=>jd 5 [0]<|jc (vs:=[zI 1]) [] (Ns) ?_
 rintro _ Y31 ⟨l31,rfl,aXt,acJ⟩
 refine jf [0] Y31 (fun bgX aGt apn=>?_)
 have aX7:=aXt _ apn
 refine GF (vs:=[(.agg ⟨l31⟩)]) [] (fun _ _ h=>h) (afw aX7) ?_
 rintro _ _ ⟨rfl,rfl⟩
 refine jg 0 []<|zD 8<|jc (vs:=[zI 2]) [] (Ns) ?_
 rintro _ Y36 ⟨l36,rfl,aXs,O7⟩
 refine jp (vs:=[zI 2,zI 1,.bool true]) [] [] (fun aJ hs hZ=>aqo)<|jp (vs:=[zI 0,zI 1,.bool true]) [] [] (fun aJ hs hZ=>aqo)<|jn fun b39=>jf [1,0] (Y36++[(b39,.cells ⟨[zI 2,zI 1,.bool true,zI 0,zI 1,.bool true]⟩ 100 (0,0))]) (fun bgV aGs acC=>?_)
 have aX5:=aXs _ (Knows.left acC)
 have aVV:=bX (sz:=3) (enc:=y6) (T:=100) [⟨2,1,true⟩,⟨0,1,true⟩] (Knows.right acC _ (.head _)) (fun _ _=>rfl)
 obtain⟨v0,v1,v3,v4,v5,v6,v7,vb,fa,fc,rfl,aUy⟩:=O7
 refine jp (vs:=[.agg ⟨[v0,v1,(.slice fa 0 fc),v3,v4,v5,v6,v7,zI 1,zI 1,zI 2,vb]⟩,(.slice (some ⟨b39,0,none⟩) 2 2)]) [] [] (fun aJ hs hZ=>aKR (QL aUy))<|jc (vs:=[.agg ⟨[v0,v1,(.slice fa 0 fc),v3,v4,v5,v6,v7,zI 1,zI 1,zI 2,(.slice (some ⟨b39,0,none⟩) 2 2)]⟩]) [] (afu (ag7 aX5 aVV)) ?_
 rintro _ Y41 ⟨v41,rfl,aU5⟩
 refine zD 8<|jc (vs:=[zI 2]) [] (Ns) ?_
 rintro _ Y45 ⟨l45,rfl,aXr,apH⟩
 refine jf [0] Y45 (fun bgT aGr aVG=>?_)
 have aX4:=aXr _ aVG
 refine GF (vs:=[(.agg ⟨l45⟩)]) [] (fun _ _ h=>h) (auP aX4) ?_
 rintro _ _ ⟨qa,qb,rfl,rfl⟩
 refine jg 0 []<|jd 49 [1]<|jeq an3 (aay 0 2 0 2)<|zD 3<|jn fun b92=>jn fun b93=>jn fun b94=>jf [2,1,0] ((b92,.cells ⟨[zI 0,zI 0]⟩ 3 (0,0))::((b93,.cells ⟨[zI 2,zI 1]⟩ 3 (0,0))::[(b94,.cells ⟨[.slice (some ⟨b92,0,none⟩) 2 2,.slice (some ⟨b93,0,none⟩) 2 2]⟩ 22 (0,0))])) (fun bgR aGq ax6=>?_)
 obtain⟨wsM,hsM,haM⟩:=aXy.up ((((ao3.trans aGt).trans aGs).trans aGr).trans aGq)
 have aT6:=bX (sz:=1) (enc:=gL) (T:=22) [.slice (some ⟨b92,0,none⟩) 2 2,.slice (some ⟨b93,0,none⟩) 2 2] (ax6 _ (.tail _ (.tail _ (.head _)))) (fun _ _=>rfl)
 have aXe:=bX (sz:=1) (enc:=aS) (T:=3) [0,0] (ax6 _ (.head _)) (fun _ _=>rfl)
 have aXd:=bX (sz:=1) (enc:=aS) (T:=3) [2,1] (ax6 _ (.tail _ (.head _))) (fun _ _=>rfl)
 refine jp (vs:=[v22,(.slice (some ⟨b94,0,none⟩) 2 2)]) [] [] (fun aJ hs hZ=>(show dG _ _ _ _ (.bool (Gc [[0,0],[2,1]] [[0,0],[2,1]])) from akP (hsM.up hs) (aT6.up hs) (haM.imp fun _ _ h=>h.up hs) (.cons (aXe.up hs) (.cons (aXd.up hs) .nil)) (by decide) (by decide) (by decide) (by decide)))<|zD 3<|jn fun b99=>jp (vs:=[v41,.slice (some ⟨b99,0,none⟩) 1 1]) [1,0] (Y41++[(b99,.cells ⟨([0].map aS).flatten⟩ 3 (0,0))]) (fun aJ hs hZ=>(show dG _ _ _ _ (.bool (J3 [0] [0])) from asY (aU5.jR hZ.left) (bX [0] hZ.right.head (by intro p hp;rfl)) (by decide) (by decide))) ?_
 refine zD 4<|Qd qC.a.a.a.a.a.a.a.a (.bool true) [3] [] (((((((cu.trans kX).trans px).trans ao3).trans aGt).trans aGs).trans aGr).trans aGq) ⟨rfl,rfl⟩
theorem aoJ{x:aj}:dG zT 66 [.agg ⟨[zI x.past,zI x.w0,zI x.w1,zI x.w2,zI x.w3,zI x.gone,zI x.new,zI x.af]⟩] ro (zI x.gone):=by
 refine zE<|zD 2<|jn fun b1=>jd 9 [0]<|zX (zI x.gone) ⟨rfl,rfl⟩
theorem ahi{rows:List bx}(hK:fO ro l K)(hV:fq K)(hR:rows.length≤2)(hB:gE ro l K rows):Be zT 65 [.agg ⟨l⟩,.func (.func 66) ⟨[]⟩ ⟨[]⟩] ro [] (fun r Y=>∃zs a b e,zs.Perm (db K (bw K) (bV K.gone K.new K.af) rows)∧Y=[]∧r= .tuple ⟨[.agg ⟨[zI a,zI b]⟩,zI e]⟩∧((zs=[]∧a=0∧b=0∧e=9)∨(zs≠[]∧a=iB (zs.map fun x=>x.gone)∧b=lT (zs.map fun x=>x.gone)∧e=0))):=by
 obtain⟨v0,v1,v3,v4,v5,v6,v7,vb,fa,fc,hv,rfl,_⟩:=id hK
 refine xk av [] [] bp fun fr=>zD 2<|jn fun b2=>jn fun b4=>jd 5 [1]<|acb (vs:=[.agg ⟨[v0,v1,.slice fa 0 fc,v3,v4,v5,v6,v7,zI K.gone,zI K.new,zI K.af,vb]⟩]) [] (fun _ _ h=>h) (MJ hK hV hR hB) ?_
 rintro _ aJ Y14 cu ⟨f14,zs,v14,Cm,rfl,F7,hz,Ik,he⟩
 have KA:∀x∈zs,(-4≤x.gone∧x.gone≤4)∧(-4≤x.new∧x.new≤4)∧(0≤x.af∧x.af≤4):=fun x hx=>by obtain⟨i,r,p,_,_,rfl,_⟩:=fR (hz.mem_iff.1 hx);exact ld hV r i p
 have Wh:zs.length≤1250:=by rw[hz.length_eq];exact lX hV _ _ hR
 refine zD 7<|jf [0] Y14 (fun ro4 mI Im=>?_)
 have WY:=Ik.jR Im
 obtain⟨pN,Hu,Hs,mY,rfl,Ht,An,Am⟩:=WY
 refine zD 7<|js 19 (!decide (Cm=0)) (fun h5=>?_) (fun h5=>?_)
 ·
  replace h5:=of_decide_eq_false (by simpa using h5)
  have n9:zs=[]∧Cm=9:=by rcases he with h| ⟨_,h⟩;exact h;omega
  refine jd 9 [0]<|OA qC.a.a (.tuple ⟨[.agg ⟨[zI 0,zI 0]⟩,zI Cm]⟩) [0] [2] [] (cu.trans mI) ⟨zs,_,_,_,hz,rfl,rfl,.inl ⟨n9.1,rfl,rfl,n9.2⟩⟩
 replace h5:=of_decide_eq_true (by simpa using h5)
 have n9:zs≠[]∧Cm=0:=by rcases he with ⟨_,h⟩|h;omega;exact h
 have hzp:0 <zs.length:=List.length_pos_iff.2 n9.1
 refine zD 14<|my<|dH [1,1,1,1,0,1,0,0] [] (fun(zz:Nat×Value×Cells)=>[(1,.func (.func 66) ⟨[]⟩ ⟨[]⟩),(4,zP b4),(5,zI 0),(9,zz.2.1),(22,.slice pN zs.length mY),(23,zI (zs.length:Int)),(24,zI (zz.1:Int))]) (fun zz=>[.l zz.2.2,.b b4 (.cells ⟨[zI 0,zI 0]⟩ 61 (0,0)),.b b2 (.cells ⟨[v0,v1,.slice fa 0 fc,v3,v4,v5,v6,v7,zI K.gone,zI K.new,zI K.af,vb]⟩ 38 (0,0)),.l fr]) (fun zz=>zz.1≤zs.length∧aA zz.2.1 1 3 aS ((zs.take zz.1).map fun x=>x.gone) zz.2.2) (fun zz=>zs.length-zz.1) (⟨0,zS,[]⟩) ⟨by dsimp only;omega,aA.nil _ _ _⟩ (zN 0 4) ?_
 rintro⟨k,vS,LS⟩ hI K1 bP rest
 dsimp only at hI
 refine zD 5<|zJ 25 ((k:Int) <(zs.length:Int)) (fun h6=>?_) fun h6=>?_
 ·
  refine zD 6 ?_
  obtain⟨uy,wz⟩:=zG zs k
  refine fK mY 8 An wz<|jl 0 (Am _ _ wz)<|jn fun KX=>jd 6 [0,0]<|jp (vs:=[.agg ⟨[zI uy.past,zI uy.w0,zI uy.w1,zI uy.w2,zI uy.w3,zI uy.gone,zI uy.new,zI uy.af]⟩]) [] [] (fun aJ hs hZ=>(aoJ (x:=uy)))<|jn fun b32=>cH aS b32 uy.gone 2 0 hI.2 rfl rfl (by simp only[List.length_map,List.length_take];omega) (fun aeD aev L33 Ih=>?_)
  refine zD 3<|zW ((k:Int)+1)<|zD 2<|zF bP (⟨k+1,(.slice aeD ((((zs.take k).map fun x=>x.gone)++[uy.gone])).length aev),L33⟩) (by rw[gH wz,List.map_append];exact Ih) [0,3,4,5]
 refine zD 5<|jp (vs:=[vS]) [0] LS (fun aJ hs hZ=>ZC (hI.2.jR hZ) ⟨by simp only[List.length_map,List.length_take];omega,by simp only[List.length_map,List.length_take];omega⟩) ?_
 refine jd 4 [1]<|OA qC.a.a (.tuple ⟨[.agg ⟨[zI (iB ((zs.take k).map fun x=>x.gone)),zI (lT ((zs.take k).map fun x=>x.gone))]⟩,zI 0]⟩) [1] [3] [] (cu.trans mI) ⟨zs,_,_,_,hz,rfl,rfl,.inr ⟨n9.1,by rw[show k=zs.length by omega,List.take_length],by rw[show k=zs.length by omega,List.take_length],rfl⟩⟩
theorem awm{rows:List bx}(hK:fO ro l K)(hV:fq K)(hR:rows.length≤2)(hB:gE ro l K rows):Be zT 18 [.agg ⟨l⟩] ro [] (fun r Y=>∃zs a b e,zs.Perm (db K (bw K) (bV K.gone K.new K.af) rows)∧Y=[]∧r= .tuple ⟨[.agg ⟨[zI a,zI b]⟩,zI e]⟩∧((zs=[]∧a=0∧b=0∧e=9)∨(zs≠[]∧a=iB (zs.map fun x=>x.gone)∧b=lT (zs.map fun x=>x.gone)∧e=0))):=by
 obtain⟨v0,v1,v3,v4,v5,v6,v7,vb,fa,fc,hv,rfl,_⟩:=id hK
 refine xk av [] [] bp fun fr=>zD 2<|jn fun b1=>jn fun b2=>jd 5 [1]<|GF (vs:=[.agg ⟨[v0,v1,.slice fa 0 fc,v3,v4,v5,v6,v7,zI K.gone,zI K.new,zI K.af,vb]⟩,.func (.func 66) ⟨[]⟩ ⟨[]⟩]) [] (fun _ _ h=>h) (ahi hK hV hR hB) ?_
 rintro _ _ ⟨zs,a5,c5,e5,hz,rfl,rfl,he⟩
 refine jg 0 []<|jd 6 [0]<|OA qC (.tuple ⟨[.agg ⟨[zI a5,zI c5]⟩,zI e5]⟩) [0] [2] [] (Sub.refl _) ⟨zs,_,_,_,hz,rfl,rfl,he⟩
theorem awf{x:aj}:dG zT 67 [.agg ⟨[zI x.past,zI x.w0,zI x.w1,zI x.w2,zI x.w3,zI x.gone,zI x.new,zI x.af]⟩] ro (zI x.new):=by
 refine zE<|zD 2<|jn fun b1=>jd 9 [0]<|zX (zI x.new) ⟨rfl,rfl⟩
theorem aow{rows:List bx}(hK:fO ro l K)(hV:fq K)(hR:rows.length≤2)(hB:gE ro l K rows):Be zT 65 [.agg ⟨l⟩,.func (.func 67) ⟨[]⟩ ⟨[]⟩] ro [] (fun r Y=>∃zs a b e,zs.Perm (db K (bw K) (bV K.gone K.new K.af) rows)∧Y=[]∧r= .tuple ⟨[.agg ⟨[zI a,zI b]⟩,zI e]⟩∧((zs=[]∧a=0∧b=0∧e=9)∨(zs≠[]∧a=iB (zs.map fun x=>x.new)∧b=lT (zs.map fun x=>x.new)∧e=0))):=by
 obtain⟨v0,v1,v3,v4,v5,v6,v7,vb,fa,fc,hv,rfl,_⟩:=id hK
 refine xk av [] [] bp fun fr=>zD 2<|jn fun b2=>jn fun b4=>jd 5 [1]<|acb (vs:=[.agg ⟨[v0,v1,.slice fa 0 fc,v3,v4,v5,v6,v7,zI K.gone,zI K.new,zI K.af,vb]⟩]) [] (fun _ _ h=>h) (MJ hK hV hR hB) ?_
 rintro _ aJ Y14 cu ⟨f14,zs,v14,Cm,rfl,F7,hz,Ik,he⟩
 have KA:∀x∈zs,(-4≤x.gone∧x.gone≤4)∧(-4≤x.new∧x.new≤4)∧(0≤x.af∧x.af≤4):=fun x hx=>by obtain⟨i,r,p,_,_,rfl,_⟩:=fR (hz.mem_iff.1 hx);exact ld hV r i p
 have Wh:zs.length≤1250:=by rw[hz.length_eq];exact lX hV _ _ hR
 refine zD 7<|jf [0] Y14 (fun ro4 mI Im=>?_)
 have WY:=Ik.jR Im
 obtain⟨pN,Hu,Hs,mY,rfl,Ht,An,Am⟩:=WY
 refine zD 7<|js 19 (!decide (Cm=0)) (fun h5=>?_) (fun h5=>?_)
 ·
  replace h5:=of_decide_eq_false (by simpa using h5)
  have n9:zs=[]∧Cm=9:=by rcases he with h| ⟨_,h⟩;exact h;omega
  refine jd 9 [0]<|OA qC.a.a (.tuple ⟨[.agg ⟨[zI 0,zI 0]⟩,zI Cm]⟩) [0] [2] [] (cu.trans mI) ⟨zs,_,_,_,hz,rfl,rfl,.inl ⟨n9.1,rfl,rfl,n9.2⟩⟩
 replace h5:=of_decide_eq_true (by simpa using h5)
 have n9:zs≠[]∧Cm=0:=by rcases he with ⟨_,h⟩|h;omega;exact h
 have hzp:0 <zs.length:=List.length_pos_iff.2 n9.1
 refine zD 14<|my<|dH [1,1,1,1,0,1,0,0] [] (fun(zz:Nat×Value×Cells)=>[(1,.func (.func 67) ⟨[]⟩ ⟨[]⟩),(4,zP b4),(5,zI 0),(9,zz.2.1),(22,.slice pN zs.length mY),(23,zI (zs.length:Int)),(24,zI (zz.1:Int))]) (fun zz=>[.l zz.2.2,.b b4 (.cells ⟨[zI 0,zI 0]⟩ 61 (0,0)),.b b2 (.cells ⟨[v0,v1,.slice fa 0 fc,v3,v4,v5,v6,v7,zI K.gone,zI K.new,zI K.af,vb]⟩ 38 (0,0)),.l fr]) (fun zz=>zz.1≤zs.length∧aA zz.2.1 1 3 aS ((zs.take zz.1).map fun x=>x.new) zz.2.2) (fun zz=>zs.length-zz.1) (⟨0,zS,[]⟩) ⟨by dsimp only;omega,aA.nil _ _ _⟩ (zN 0 4) ?_
 rintro⟨k,vS,LS⟩ hI K1 bP rest
 dsimp only at hI
 refine zD 5<|zJ 25 ((k:Int) <(zs.length:Int)) (fun h6=>?_) fun h6=>?_
 ·
  refine zD 6 ?_
  obtain⟨uy,wz⟩:=zG zs k
  refine fK mY 8 An wz<|jl 0 (Am _ _ wz)<|jn fun KX=>jd 6 [0,0]<|jp (vs:=[.agg ⟨[zI uy.past,zI uy.w0,zI uy.w1,zI uy.w2,zI uy.w3,zI uy.gone,zI uy.new,zI uy.af]⟩]) [] [] (fun aJ hs hZ=>(awf (x:=uy)))<|jn fun b32=>cH aS b32 uy.new 2 0 hI.2 rfl rfl (by simp only[List.length_map,List.length_take];omega) (fun aeD aev L33 Ih=>?_)
  refine zD 3<|zW ((k:Int)+1)<|zD 2<|zF bP (⟨k+1,(.slice aeD ((((zs.take k).map fun x=>x.new)++[uy.new])).length aev),L33⟩) (by rw[gH wz,List.map_append];exact Ih) [0,3,4,5]
 refine zD 5<|jp (vs:=[vS]) [0] LS (fun aJ hs hZ=>ZC (hI.2.jR hZ) ⟨by simp only[List.length_map,List.length_take];omega,by simp only[List.length_map,List.length_take];omega⟩) ?_
 refine jd 4 [1]<|OA qC.a.a (.tuple ⟨[.agg ⟨[zI (iB ((zs.take k).map fun x=>x.new)),zI (lT ((zs.take k).map fun x=>x.new))]⟩,zI 0]⟩) [1] [3] [] (cu.trans mI) ⟨zs,_,_,_,hz,rfl,rfl,.inr ⟨n9.1,by rw[show k=zs.length by omega,List.take_length],by rw[show k=zs.length by omega,List.take_length],rfl⟩⟩
theorem aFG{rows:List bx}(hK:fO ro l K)(hV:fq K)(hR:rows.length≤2)(hB:gE ro l K rows):Be zT 19 [.agg ⟨l⟩] ro [] (fun r Y=>∃zs a b e,zs.Perm (db K (bw K) (bV K.gone K.new K.af) rows)∧Y=[]∧r= .tuple ⟨[.agg ⟨[zI a,zI b]⟩,zI e]⟩∧((zs=[]∧a=0∧b=0∧e=9)∨(zs≠[]∧a=iB (zs.map fun x=>x.new)∧b=lT (zs.map fun x=>x.new)∧e=0))):=by
 obtain⟨v0,v1,v3,v4,v5,v6,v7,vb,fa,fc,hv,rfl,_⟩:=id hK
 refine xk av [] [] bp fun fr=>zD 2<|jn fun b1=>jn fun b2=>jd 5 [1]<|GF (vs:=[.agg ⟨[v0,v1,.slice fa 0 fc,v3,v4,v5,v6,v7,zI K.gone,zI K.new,zI K.af,vb]⟩,.func (.func 67) ⟨[]⟩ ⟨[]⟩]) [] (fun _ _ h=>h) (aow hK hV hR hB) ?_
 rintro _ _ ⟨zs,a5,c5,e5,hz,rfl,rfl,he⟩
 refine jg 0 []<|jd 6 [0]<|OA qC (.tuple ⟨[.agg ⟨[zI a5,zI c5]⟩,zI e5]⟩) [0] [2] [] (Sub.refl _) ⟨zs,_,_,_,hz,rfl,rfl,he⟩
theorem aaf{n:Nat}(hn:n≤4)(hi:i <n):hasB (IntKind.u8.wrap (dZ .u8 1 (n:Int)-1)) i=true:=by
 have h:(n=1∧i=0)∨(n=2∧(i=0∨i=1))∨(n=3∧(i=0∨i=1∨i=2))∨(n=4∧(i=0∨i=1∨i=2∨i=3)):=by omega
 rcases h with ⟨rfl,rfl⟩| ⟨rfl,rfl|rfl⟩| ⟨rfl,rfl|rfl|rfl⟩| ⟨rfl,rfl|rfl|rfl|rfl⟩<;>rfl
def pH(a b:Int)(l:List eY):Bool:=l.any fun x=>(decide (x.a=a)&&decide (x.b=b))&& !x.same
def nV(p:Nat→Int)(l:List eY):Bool:=l.all fun x=> !x.same||decide (p x.a.toNat=x.b+1)
theorem YD{on:Int}{a b:Int}:∀ {l:List eY} {k:Nat},(∀j,j <l.length→hasB on ((k+j:Nat):Int)=true)→Df on a b l k=pH a b l
 | [],_,_=>rfl
 |x::l,k,h=>by
  have h0:=h 0 (Nat.zero_lt_succ _)
  have ih:=YD (a:=a) (b:=b) (l:=l) (k:=k+1) fun j hj=>by
   have:=h (j+1) (Nat.succ_lt_succ hj)
   rwa[show k+1+j=k+(j+1) by omega]
  simp only[Nat.add_zero] at h0
  simp only[Df,h0,ih,pH,List.any_cons,Bool.true_and]
theorem LZ{on:Int}{p:Nat→Int}:∀ {l:List eY} {k:Nat},(∀j,j <l.length→hasB on ((k+j:Nat):Int)=true)→mi on p l k=nV p l
 | [],_,_=>rfl
 |x::l,k,h=>by
  have h0:=h 0 (Nat.zero_lt_succ _)
  have ih:=LZ (p:=p) (l:=l) (k:=k+1) fun j hj=>by
   have:=h (j+1) (Nat.succ_lt_succ hj)
   rwa[show k+1+j=k+(j+1) by omega]
  simp only[Nat.add_zero] at h0
  simp only[mi,h0,ih,nV,List.all_cons,Bool.true_and]
  cases x.same<;>cases decide (p x.a.toNat=x.b+1)<;>simp
def gV(F:Nat→Nat→Bool)(R:(Nat→Int)→Bool)(na:Nat):Nat→Nat→(Nat→Int)→List (Nat→Int)
 |0,_,p=>bif R p then [p] else []
 |n+1,a,p=>gV F R na n (a+1) p++(List.range na).flatMap fun b=>bif !F a b||qY p a ((b:Int)+1) then [] else gV F R na n (a+1) (iQ p a ((b:Int)+1))
def kU(K:aE)(a b:Nat):Bool:=match K.before[a]?,K.after[b]? with
 |some x,some y=> !rE K x y&&(!nt K x y&& !pH a b K.facts)
 |_,_=>false
theorem ap4(h:K.facts.length≤4)(a b:Nat):dA K (bw K) a b=kU K a b:=by
 have e:Df (bw K) a b K.facts 0=pH a b K.facts:=YD fun j hj=>by
  rw[Nat.zero_add];exact aaf h hj
 simp only[dA,kU,e]
 cases K.before[a]?<;>cases K.after[b]?<;>rfl
theorem oW(h:K.facts.length≤4):∀(n a:Nat) (p:Nat→Int),jo K (bw K) n a p=gV (kU K) (fun p=>nV p K.facts) K.after.length n a p
 |0,a,p=>by
  have e:mi (bw K) p K.facts 0=nV p K.facts:=LZ fun j hj=>by
   rw[Nat.zero_add];exact aaf h hj
  simp only[jo,gV,e]
 |n+1,a,p=>by
  simp only[jo,gV,ap4 h,oW h n]
theorem q7{R:(Nat→Int)→Bool}:∀(n a:Nat) (p q:Nat→Int),q∈gV F R na n a p→∀c,c <a→q c=p c
 |0,_,p,q,h,c,_=>by
  simp only[gV] at h
  cases hr:R p
  ·rw[hr] at h;simp at h
  rw[hr] at h;simp at h;rw[h]
 |n+1,a,p,q,h,c,hc=>by
  simp only[gV,List.mem_append,List.mem_flatMap] at h
  rcases h with h| ⟨b,_,h⟩
  ·exact q7 n _ _ _ h c (by omega)
  cases hx: !F a b||qY p a ((b:Int)+1)
  ·rw[hx] at h
   rw[q7 n _ _ _ h c (by omega)]
   simp only[iQ]
   rw[if_neg (by omega)]
  rw[hx] at h;simp at h
theorem sq{r:bx}{q:Nat}(hq:q <4):pI (bI K r i p) q=p q:=by
 rcases BM hq with rfl|rfl|rfl|rfl<;>rfl
theorem auh(hC:kg K)(hV:fq K):cZ K≤1250:=lX hV _ _ (kM hC)
def kP(m:fH)(i:Nat):Nat→List (List Int)
 |0=>[]
 |j+1=>kP m i j++(bif decide (m.c i j>0) then [[(i:Int),(j:Int)]] else [])
def lB(m:fH)(w:Nat):Nat→List (List Int)
 |0=>[]
 |i+1=>lB m w i++kP m i w
theorem Gw{m:fH}(h:m.c i j>0):kP m i (j+1)=kP m i j++[[(i:Int),(j:Int)]]:=by rw[kP,decide_eq_true h];rfl
theorem Gx{m:fH}(h:¬m.c i j>0):kP m i (j+1)=kP m i j:=by rw[kP,decide_eq_false h];exact List.append_nil _
theorem yh(m:fH)(i:Nat):∀j,(kP m i j).length≤j
 |0=>Nat.le_refl _
 |j+1=>by have:=yh m i j;rw[kP,List.length_append];cases decide (m.c i j>0)<;>simp<;>omega
theorem tP(m:fH){w:Nat}(hw:w≤4):∀i,(lB m w i).length≤4*i
 |0=>Nat.le_refl _
 |i+1=>by have:=tP m hw i;have:=yh m i w;rw[lB,List.length_append];omega
theorem Ms(m:fH)(i:Nat):∀j,∀l∈kP m i j,l.length=2
 |0=>fun _ h=>by cases h
 |j+1=>fun l h=>by
  rw[kP] at h
  rcases List.mem_append.1 h with h|h
  ·exact Ms m i j l h
  cases hd:decide (m.c i j>0)
  ·rw[hd] at h;simp at h
  rw[hd] at h;simp at h;rw[h];rfl
theorem DD(m:fH)(w:Nat):∀i,∀l∈lB m w i,l.length=2
 |0=>fun _ h=>by cases h
 |i+1=>fun l h=>by
  rw[lB] at h
  rcases List.mem_append.1 h with h|h
  ·exact DD m w i l h
  exact Ms m i w l h
theorem TE:∀l:List Int,J3 l l=true
 | []=>rfl
 |x::l=>by simp[J3,TE l]
theorem Nh:∀l:List (List Int),Gc l l=true
 | []=>rfl
 |x::l=>by simp[Gc,TE,Nh l]
theorem av4{a:Int}:dG zT 64 [zI a,zI b] ro (.bool (decide (a>0))):=by
 refine zE<|zD 11<|zX (.bool (decide (a>0))) ⟨rfl,rfl⟩
theorem ahp{rows:List bx}(hK:fO ro l K)(hV:fq K)(hR:rows.length≤2)(hB:gE ro l K rows)(hCt:rJ):Be zT 63 [.agg ⟨l⟩,.func (.func 64) ⟨[]⟩ ⟨[]⟩] ro [] (fun r Y=>∃zs v e,zs.Perm (db K (bw K) (bV K.gone K.new K.af) rows)∧r= .tuple ⟨[v,zI e]⟩∧((zs=[]∧v= zS∧e=9∧Y=[])∨(zs≠[]∧e=0∧∀aF,Knows aF Y→LL aF v (lB (az zs) K.after.length K.before.length)))):=by
 obtain⟨v0,v1,v3,v4,v5,v6,v7,vb,fa,fc,hv,rfl,_⟩:=id hK
 refine xk av [] [] bp fun fr=>zD 2<|jn fun b2=>jd 6 [0]<|acb (vs:=[.agg ⟨[v0,v1,.slice fa 0 fc,v3,v4,v5,v6,v7,zI K.gone,zI K.new,zI K.af,vb]⟩]) [] (fun _ _ h=>h) (MJ hK hV hR hB) ?_
 rintro _ aJ Y15 cu ⟨f15,zs,v15,e15,rfl,F7,hz,aiu,he⟩
 have KA:∀x∈zs,(-4≤x.gone∧x.gone≤4)∧(-4≤x.new∧x.new≤4)∧(0≤x.af∧x.af≤4):=fun x hx=>by obtain⟨i,r,p,_,_,rfl,_⟩:=fR (hz.mem_iff.1 hx);exact ld hV r i p
 have Wh:zs.length≤1250:=by rw[hz.length_eq];exact lX hV _ _ hR
 have hpr:∀x∈zs,∀q,0≤pI x q∧pI x q≤4:=fun x hx=>by obtain⟨i,r,p,_,hp,rfl,_⟩:=fR (hz.mem_iff.1 hx);exact GC ((jC hV _).2 p hp)
 obtain⟨d0,d1,d2,d3,d4,d5,d6,d7,d8,d9,dh,hf,py,kz,hr,yY,B6,Eg,cg⟩:=id F7
 obtain⟨fC,Dv,Dt,eO,rfl,Du,wu,wq⟩:=yY
 obtain⟨fD,Dy,Dw,eQ,rfl,Dx,wy,wx⟩:=B6
 have yV:=hV.before.1
 have Ec:=hV.after.1
 refine zD 7<|jf [0] Y15 (fun ro4 mI Im=>?_)
 have WY:=aiu.jR Im
 obtain⟨pN,Hu,Hs,mY,rfl,Ht,An,Am⟩:=WY
 refine zD 7<|js 20 (!decide (e15=0)) (fun h5=>?_) (fun h5=>?_)
 ·
  replace h5:=of_decide_eq_false (by simpa using h5)
  have n9:zs=[]∧e15=9:=by rcases he with h| ⟨_,h⟩;exact h;omega
  refine zD 8<|Qd qC.a.a (.tuple ⟨[zS,zI e15]⟩) [1] [] (cu.trans mI) ⟨zs,_,_,hz,rfl,.inl ⟨n9.1,rfl,n9.2,rfl⟩⟩
 replace h5:=of_decide_eq_true (by simpa using h5)
 have n9:zs≠[]∧e15=0:=by rcases he with ⟨_,h⟩|h;omega;exact h
 refine zD 9<|jc (vs:=[.slice pN zs.length mY]) [] (hCt (show bJ _ _ _ _ _ from ⟨pN,Hu,Hs,mY,rfl,Ht,An,Am⟩) (by omega) hpr) ?_
 rintro _ _ ⟨rfl,rfl⟩
 refine jg 0 []<|jn fun pX=>jd 9 [0]<|jl (b:=f15) (off:=0) (m:=13) (vs:=[d0,d1,d2,d3,d4,d5,.slice fC K.before.length eO,.slice fD K.after.length eQ,zI K.gone,zI K.new,zI K.af,d8,d9]) 6 ⟨_,_,_,.inl (mI _ _ hf),rfl⟩<|zD 4<|my<|my<|dH [1,1,1,1,1,0,1,0,0] [] (fun(zz:Nat×Value×Cells×(List Value)×Cells)=>[(1,.func (.func 64) ⟨[]⟩ ⟨[]⟩),(4,zS),(5,zI 0),(6,zP f15),(7,.slice pN zs.length mY),(9,zz.2.1),(10,zP pX),(29,zI (K.before.length:Int)),(30,zI (zz.1:Int))]) (fun zz=>[.l zz.2.2.1,.l zz.2.2.2.2,.b pX (.cells ⟨[zI ((az zs).c 0 0),zI ((az zs).c 0 1),zI ((az zs).c 0 2),zI ((az zs).c 0 3),zI ((az zs).c 1 0),zI ((az zs).c 1 1),zI ((az zs).c 1 2),zI ((az zs).c 1 3),zI ((az zs).c 2 0),zI ((az zs).c 2 1),zI ((az zs).c 2 2),zI ((az zs).c 2 3),zI ((az zs).c 3 0),zI ((az zs).c 3 1),zI ((az zs).c 3 2),zI ((az zs).c 3 3)]⟩ 158 (0,0)),.b b2 (.cells ⟨[v0,v1,.slice fa 0 fc,v3,v4,v5,v6,v7,zI K.gone,zI K.new,zI K.af,vb]⟩ 38 (0,0)),.l fr]) (fun zz=>(zz.1≤K.before.length∧zz.2.2.2.1.length=(lB (az zs) K.after.length zz.1).length)∧aA zz.2.1 1 22 gL zz.2.2.2.1 zz.2.2.1∧∀aF,Knows aF zz.2.2.2.2→dc (fun w l=>bJ aF w 1 aS l) zz.2.2.2.1 (lB (az zs) K.after.length zz.1)) (fun zz=>K.before.length-zz.1) (⟨0,zS,[],[],[]⟩) ⟨⟨by dsimp only;omega,rfl⟩,aA.nil _ _ _,fun _ _=> .nil⟩ [1,0,2,3,4] ?_
 rintro⟨i,vO,LO,es,Z⟩ hI K1 bP rest
 dsimp only at hI
 have hil:=tP (az zs) (w:=K.after.length) (by omega) i
 refine zD 5<|zJ 31 ((i:Int) <(K.before.length:Int)) (fun h6=>?_) fun h6=>?_
 ·
  refine zD 15<|jl (b:=f15) (off:=0) (m:=13) (vs:=[d0,d1,d2,d3,d4,d5,.slice fC K.before.length eO,.slice fD K.after.length eQ,zI K.gone,zI K.new,zI K.af,d8,d9]) 7 ⟨_,_,_,.inl (mI _ _ hf),rfl⟩<|zD 4<|dH [1,1,1,1,1,0,1,0,0,1,1,0,0,1,1,0,0] [K1] (fun(zz:Nat×Value×Cells×(List Value)×Cells)=>[(1,.func (.func 64) ⟨[]⟩ ⟨[]⟩),(4,zS),(5,zI 0),(6,zP f15),(7,.slice pN zs.length mY),(9,zz.2.1),(10,zP pX),(11,zI (i:Int)),(29,zI (K.before.length:Int)),(30,zI (i:Int)),(38,zI (K.after.length:Int)),(39,zI (zz.1:Int))]) (fun zz=>[.l zz.2.2.1,.l zz.2.2.2.2,.b pX (.cells ⟨[zI ((az zs).c 0 0),zI ((az zs).c 0 1),zI ((az zs).c 0 2),zI ((az zs).c 0 3),zI ((az zs).c 1 0),zI ((az zs).c 1 1),zI ((az zs).c 1 2),zI ((az zs).c 1 3),zI ((az zs).c 2 0),zI ((az zs).c 2 1),zI ((az zs).c 2 2),zI ((az zs).c 2 3),zI ((az zs).c 3 0),zI ((az zs).c 3 1),zI ((az zs).c 3 2),zI ((az zs).c 3 3)]⟩ 158 (0,0)),.b b2 (.cells ⟨[v0,v1,.slice fa 0 fc,v3,v4,v5,v6,v7,zI K.gone,zI K.new,zI K.af,vb]⟩ 38 (0,0)),.l fr]) (fun zz=>(zz.1≤K.after.length∧zz.2.2.2.1.length=((lB (az zs) K.after.length i)++(kP (az zs) i zz.1)).length)∧aA zz.2.1 1 22 gL zz.2.2.2.1 zz.2.2.1∧∀aF,Knows aF zz.2.2.2.2→dc (fun w l=>bJ aF w 1 aS l) zz.2.2.2.1 ((lB (az zs) K.after.length i)++(kP (az zs) i zz.1))) (fun zz=>K.after.length-zz.1) (⟨0,vO,LO,es,Z⟩) ⟨⟨by dsimp only;omega,by simpa [kP] using hI.1.2⟩,hI.2.1,by simpa [kP] using hI.2.2⟩ (zN 0 5) ?_
  rintro⟨j,vO,LO,es,Z⟩ hJ K2 lL rest
  dsimp only at hJ
  have hjl:=yh (az zs) i j
  have Uy:=hJ.1.2
  rw[List.length_append] at Uy
  refine zD 5<|zJ 40 ((j:Int) <(K.after.length:Int)) (fun h7=>?_) fun h7=>?_
  ·
   refine zD 10 ?_
   have iY:=Ez zs i j
   refine zD 4<|JM (b:=pX) (off:=0) (len:=4) (sz:=4) (i:Int) (by omega)<|JM (b:=pX) (off:=0+(i:Int).toNat*4) (len:=4) (sz:=1) (j:Int) (by omega)<|n7 (b:=pX) (off:=0+(i:Int).toNat*4+(j:Int).toNat*1) (m:=1) (vs:=[zI ((az zs).c i j)]) 0 [2] [(pX,.cells ⟨[zI ((az zs).c 0 0),zI ((az zs).c 0 1),zI ((az zs).c 0 2),zI ((az zs).c 0 3),zI ((az zs).c 1 0),zI ((az zs).c 1 1),zI ((az zs).c 1 2),zI ((az zs).c 1 3),zI ((az zs).c 2 0),zI ((az zs).c 2 1),zI ((az zs).c 2 2),zI ((az zs).c 2 3),zI ((az zs).c 3 0),zI ((az zs).c 3 1),zI ((az zs).c 3 2),zI ((az zs).c 3 3)]⟩ 158 (0,0))] (fun s _ hZ=>qI (hZ _ (.head _)) (BK (m:=az zs) (by omega) (by omega)))<|zD 2<|jp (vs:=[zI ((az zs).c i j),zI (zs.length:Int)]) [] [] (fun aJ hs hZ=>av4)<|zD 1<|js 50 (decide (((az zs).c i j)>0)) (fun h8=>?_) (fun h8=>?_)
   ·
    refine zD 5<|jn fun b54=>jn fun b55=>cH gL b55 (.slice (some ⟨b54,0,none⟩) 2 2:Value) 2 0 hJ.2.1 rfl rfl (by omega) fun QE QB L56 AH=>zD 3<|zW ((j:Int)+1)<|zD 2<|zV lL (⟨j+1,(.slice QE ((es++[(.slice (some ⟨b54,0,none⟩) 2 2:Value)])).length QB),L56,(es++[(.slice (some ⟨b54,0,none⟩) 2 2:Value)]),Z++[(b54,.cells ⟨[zI (i:Int),zI (j:Int)]⟩ 3 (0,0))]⟩) ⟨⟨by dsimp only;omega,by dsimp only;rw[Gw (of_decide_eq_true (by assumption)),←List.append_assoc];simp only[zM] at*;omega⟩,AH,fun aF hk=>by dsimp only;rw[Gw (of_decide_eq_true (by assumption)),←List.append_assoc];exact(hJ.2.2 aF hk.left).snoc (bX (enc:=aS) (T:=3) [(i:Int),(j:Int)] (hk.right _ (.head _)) (fun _ _=>rfl))⟩ [[0],[3,2],[4],[5],[6]]
   refine zD 3<|zW ((j:Int)+1)<|zD 2<|zY lL (⟨j+1,vO,LO,es,Z⟩) ⟨⟨by dsimp only;omega,by dsimp only;rw[Gx (of_decide_eq_false (by assumption))];exact hJ.1.2⟩,hJ.2.1,by dsimp only;rw[Gx (of_decide_eq_false (by assumption))];exact hJ.2.2⟩ [0,1,2,3,4]
  refine zD 3<|zW ((i:Int)+1)<|zD 2<|zY bP (⟨i+1,vO,LO,es,Z⟩) ⟨⟨by dsimp only;omega,by have:=hJ.1.2;rw[show j=K.after.length by omega] at this;exact this⟩,hJ.2.1,by have:=hJ.2.2;rw[show j=K.after.length by omega] at this;exact this⟩ [0,1,2,3,4]
 refine zD 9<|aFR qC.a.a (.tuple ⟨[vO,zI 0]⟩) [0,1,4] LO Z (cu.trans mI) ⟨zs,_,_,hz,rfl,.inr ⟨n9.1,rfl,fun aF hk=>⟨es,hI.2.1.jR hk.left,by have:=hI.2.2 aF hk.right;rwa[show i=K.before.length by omega] at this⟩⟩⟩
theorem aoy{rows:List bx}(hK:fO ro l K)(hV:fq K)(hR:rows.length≤2)(hB:gE ro l K rows)(hCt:rJ):Be zT 17 [.agg ⟨l⟩] ro [] (fun r Y=>∃zs v e,zs.Perm (db K (bw K) (bV K.gone K.new K.af) rows)∧r= .tuple ⟨[v,zI e]⟩∧((zs=[]∧v= zS∧e=9∧Y=[])∨(zs≠[]∧e=0∧∀aF,Knows aF Y→LL aF v (lB (az zs) K.after.length K.before.length)))):=by
 obtain⟨v0,v1,v3,v4,v5,v6,v7,vb,fa,fc,hv,rfl,_⟩:=id hK
 refine xk av [] [] bp fun fr=>zD 2<|jn fun b1=>jd 6 [0]<|GF (vs:=[.agg ⟨[v0,v1,.slice fa 0 fc,v3,v4,v5,v6,v7,zI K.gone,zI K.new,zI K.af,vb]⟩,.func (.func 64) ⟨[]⟩ ⟨[]⟩]) [] (fun _ _ h=>h) (ahp hK hV hR hB hCt) ?_
 rintro _ Y5 ⟨zs,v5,e5,hz,rfl,hcs⟩
 refine zD 6<|Qd qC (.tuple ⟨[v5,zI e5]⟩) [0,2] Y5 (Sub.refl _) ⟨zs,v5,e5,hz,rfl,hcs⟩
theorem IS{p:Int→Bool}:∀(l:List Int) (k:Nat),bS p l k≥0↔∃x∈l,p x=true
 | [],k=>by simp[bS]
 |x::l,k=>by
  have ih:=IS (p:=p) l (k+1)
  simp only[bS,List.mem_cons,exists_eq_or_imp]
  cases h:p x
  ·simp only[cond_false,Bool.false_eq_true,false_or];exact ih
  simp only[cond_true,true_or,iff_true];omega
theorem Yr(p:Nat→Int){a:Nat}(ha:a≤4)(v:Int):v∈(pL p).take a↔∃c,c <a∧p c=v:=by
 have h:a=0∨a=1∨a=2∨a=3∨a=4:=by omega
 constructor
 ·intro hv
  rcases h with rfl|rfl|rfl|rfl|rfl<;>simp[pL] at hv
  ·exact⟨0,by omega,hv.symm⟩
  ·rcases hv with h|h;exact⟨0,by omega,h.symm⟩;exact⟨1,by omega,h.symm⟩
  ·rcases hv with h|h|h;exact⟨0,by omega,h.symm⟩;exact⟨1,by omega,h.symm⟩;exact⟨2,by omega,h.symm⟩
  rcases hv with h|h|h|h;exact⟨0,by omega,h.symm⟩;exact⟨1,by omega,h.symm⟩;exact⟨2,by omega,h.symm⟩;exact⟨3,by omega,h.symm⟩
 rintro⟨c,hc,rfl⟩
 have hc4:c=0∨c=1∨c=2∨c=3:=by omega
 rcases h with rfl|rfl|rfl|rfl|rfl<;>rcases hc4 with rfl|rfl|rfl|rfl<;>first|omega|simp[pL]
theorem S4{a:Nat}{v:Int}(ha:a≤4):qY p a v=true↔∃c,c <a∧p c=v:=by
 simp only[qY,decide_eq_true_eq]
 rw[IS]
 constructor
 ·rintro⟨x,hx,h⟩
  obtain⟨c,hc,e⟩:=(Yr p ha x).1 hx
  exact⟨c,hc,by rw[e];exact(of_decide_eq_true h).symm⟩
 rintro⟨c,hc,e⟩
 exact⟨v,(Yr p ha v).2 ⟨c,hc,e⟩,decide_eq_true rfl⟩
theorem tS{R:(Nat→Int)→Bool}:∀(n a:Nat) (p q:Nat→Int),a+n≤4→(q∈gV F R na n a p↔(∀c,c <a∨a+n≤c→q c=p c)∧(∀c,a≤c→c <a+n→q c=p c∨∃b,b <na∧F c b=true∧q c=(b:Int)+1∧∀d,d <c→q d≠(b:Int)+1)∧R q=true)
 |0,a,p,q,_=>by
  simp only[gV,Nat.add_zero]
  constructor
  ·intro h
   cases hr:R p
   ·rw[hr] at h;simp at h
   rw[hr] at h;simp at h;subst h;exact⟨fun _ _=>rfl,fun c h1 h2=>by omega,hr⟩
  rintro⟨h1,_,h3⟩
  have e:q=p:=funext fun c=>h1 c (by omega)
  subst e
  rw[h3];simp
 |n+1,a,p,q,han=>by
  simp only[gV,List.mem_append,List.mem_flatMap,List.mem_range]
  constructor
  ·rintro(h| ⟨b,hb,h⟩)
   ·obtain⟨h1,h2,h3⟩:=(tS n (a+1) p q (by omega)).1 h
    refine⟨fun c hc=>h1 c (by omega),fun c hc1 hc2=>?_,h3⟩
    by_cases e:c=a
    ·exact .inl (h1 c (by omega))
    exact h2 c (by omega) (by omega)
   cases hx: !F a b||qY p a ((b:Int)+1)
   ·rw[hx] at h
    simp only[cond_false] at h
    obtain⟨h1,h2,h3⟩:=(tS n (a+1) _ q (by omega)).1 h
    simp only[Bool.or_eq_false_iff,Bool.not_eq_false'] at hx
    have hp:∀c,c≠a→iQ p a ((b:Int)+1) c=p c:=fun c hc=>by simp[iQ,hc]
    refine⟨fun c hc=>by rw[h1 c (by omega),hp c (by omega)],fun c hc1 hc2=>?_,h3⟩
    by_cases e:c=a
    ·subst e
     have hq:q c=(b:Int)+1:=by rw[h1 c (by omega)];simp[iQ]
     refine .inr ⟨b,hb,hx.1,hq,fun d hd hqd=>?_⟩
     have:qY p c ((b:Int)+1)=true:=(S4 (by omega)).2 ⟨d,hd,by rw[←hqd,h1 d (by omega),hp d (by omega)]⟩
     rw[hx.2] at this;cases this
    rcases h2 c (by omega) (by omega) with h|h
    ·exact .inl (by rw[h,hp c e])
    exact .inr h
   rw[hx] at h;simp at h
  rintro⟨h1,h2,h3⟩
  rcases h2 a (Nat.le_refl _) (by omega) with he| ⟨b,hb,hF,hq,hd⟩
  ·left
   exact(tS n (a+1) p q (by omega)).2 ⟨fun c hc=>by
    by_cases e:c=a
    ·rw[e];exact he
    exact h1 c (by omega),fun c hc1 hc2=>h2 c (by omega) (by omega),h3⟩
  right
  refine⟨b,hb,?_⟩
  have hx:(!F a b||qY p a ((b:Int)+1))=false:=by
   cases hh:qY p a ((b:Int)+1)
   ·simp[hF]
   obtain⟨c,hc,e⟩:=(S4 (by omega)).1 hh
   exact absurd (by rw[h1 c (by omega),e]) (hd c hc)
  rw[hx]
  simp only[cond_false]
  refine(tS n (a+1) _ q (by omega)).2 ⟨fun c hc=>?_,fun c hc1 hc2=>?_,h3⟩
  ·by_cases e:c=a
   ·rw[e,hq];simp[iQ]
   rw[h1 c (by omega)];simp[iQ,e]
  have:iQ p a ((b:Int)+1) c=p c:=by simp[iQ,show c≠a by omega]
  rw[this]
  exact h2 c (by omega) (by omega)
theorem qz(h:K.facts.length≤4)(hb:K.before.length≤4):q∈aY K (bw K)↔(∀c,q c=0∨(c <K.before.length∧∃b,b <K.after.length∧kU K c b=true∧q c=(b:Int)+1))∧(∀c d,d <c→q c=q d→q c=0)∧nV q K.facts=true:=by
 rw[aY,oW h,tS _ _ _ _ (by omega)]
 constructor
 ·rintro⟨h1,h2,h3⟩
  have key:∀c,q c=0∨(c <K.before.length∧∃b,b <K.after.length∧kU K c b=true∧q c=(b:Int)+1∧∀d,d <c→q d≠(b:Int)+1):=fun c=>by
   by_cases hc:c <K.before.length
   ·rcases h2 c (Nat.zero_le _) (by omega) with e| ⟨b,h⟩
    ·exact .inl e
    exact .inr ⟨hc,b,h⟩
   exact .inl (h1 c (.inr (by omega)))
  refine⟨fun c=>?_,fun c d hd e=>?_,h3⟩
  ·rcases key c with e| ⟨hc,b,hb1,fE,WU,_⟩
   ·exact .inl e
   exact .inr ⟨hc,b,hb1,fE,WU⟩
  rcases key c with e2| ⟨hc,b,_,_,hq,dQ⟩
  ·exact e2
  exact absurd (by rw[←e,hq]) (dQ d hd)
 rintro⟨h1,h2,h3⟩
 refine⟨fun c hc=>?_,fun c _ hc=>?_,h3⟩
 ·rcases h1 c with e| ⟨hc2,_⟩
  ·exact e
  omega
 rcases h1 c with e| ⟨_,b,hb1,fE,hq⟩
 ·exact .inl e
 refine .inr ⟨b,hb1,fE,hq,fun d hd e=>?_⟩
 have:=h2 c d hd (by rw[hq,e])
 omega
theorem xB{R:(Nat→Int)→Bool}:∀(n a:Nat) (p:Nat→Int),(∀c,a≤c→p c=0)→(gV F R na n a p).Nodup
 |0,_,p,_=>by
  simp only[gV]
  cases R p<;>simp
 |n+1,a,p,hp=>by
  simp only[gV]
  have h0:∀c,a+1≤c→p c=0:=fun c hc=>hp c (by omega)
  have hb:∀b:Nat,∀c,a+1≤c→iQ p a ((b:Int)+1) c=0:=fun b c hc=>by
   simp[iQ,show c≠a by omega,hp c (by omega)]
  have val:∀b q,q∈(bif !F a b||qY p a ((b:Int)+1) then [] else gV F R na n (a+1) (iQ p a ((b:Int)+1)))→q a=(b:Int)+1:=fun b q h=>by
   cases hx: !F a b||qY p a ((b:Int)+1)
   ·rw[hx] at h
    simp only[cond_false] at h
    rw[q7 n _ _ _ h a (by omega)];simp[iQ]
   rw[hx] at h;simp at h
  refine List.nodup_append.2 ⟨xB n _ _ h0,?_,fun q hq q' GH e=>?_⟩
  ·refine List.pairwise_flatMap.2 ⟨fun b _=>?_,?_⟩
   ·cases !F a b||qY p a ((b:Int)+1)
    ·exact xB n _ _ (hb b)
    simp
   refine List.nodup_range.imp fun {b b'} JX x hx y hy e=>?_
   have h1:=val b x hx
   have h2:=val b' y hy
   rw[e] at h1
   omega
  obtain⟨b,_,h⟩:=List.mem_flatMap.1 GH
  have h1:=val b q' h
  have h2:=q7 n _ _ _ hq a (by omega)
  rw[hp a (Nat.le_refl _),e] at h2
  omega
theorem Rz(h:K.facts.length≤4):(aY K (bw K)).Nodup:=by
 rw[aY,oW h]
 exact xB _ _ _ fun _ _=>rfl
theorem zd{f:α→β}:∀ {l:List α} {m:List β},l.Nodup→(∀x∈l,f x∈m)→(∀x∈l,∀y∈l,f x=f y→x=y)→l.length≤m.length
 | [],_,_,_,_=>Nat.zero_le _
 |x::l,m,hn,hm,hi=>by
  obtain⟨m1,m2,rfl⟩:=List.append_of_mem (hm x List.mem_cons_self)
  have hn':=List.nodup_cons.1 hn
  have:=zd (f:=f) (l:=l) (m:=m1++m2) hn'.2 (fun y hy=>by
   have h1:=hm y (List.mem_cons_of_mem _ hy)
   simp only[List.mem_append,List.mem_cons] at h1 ⊢
   rcases h1 with h|h|h
   ·exact .inl h
   ·exact absurd (hi y (List.mem_cons_of_mem _ hy) x List.mem_cons_self h) (fun e=>hn'.1 (e▸hy))
   exact .inr h) (fun a ha b hb=>hi a (List.mem_cons_of_mem _ ha) b (List.mem_cons_of_mem _ hb))
  simp only[List.length_cons,List.length_append] at this ⊢
  omega
def G6(n k:Nat)(T:List (List Int)):Nat→List (List Int)
 |0=>[]
 |i+1=>G6 n k T i++T.map fun l=>(i:Int)::l
def nT(n:Nat):Nat→List (List Int)
 |0=>[[]]
 |k+1=>G6 n k (nT n k) n
theorem HQ{n:Nat}{T:List (List Int)}{l:List Int}:∀ {i:Nat},l∈G6 n k T i↔∃(j:Nat) (m:List Int),j <i∧m∈T∧l=(j:Int)::m
 |0=>by simp[G6]
 |i+1=>by
  rw[G6,List.mem_append,HQ,List.mem_map]
  constructor
  ·rintro(⟨j,m,h1,h2,h3⟩| ⟨m,h1,rfl⟩)
   ·exact⟨j,m,by omega,h2,h3⟩
   exact⟨i,m,by omega,h1,rfl⟩
  rintro⟨j,m,h1,h2,rfl⟩
  by_cases e:j=i
  ·subst e;exact .inr ⟨m,h2,rfl⟩
  exact .inl ⟨j,m,by omega,h2,rfl⟩
theorem GB{n:Nat}:∀ {k:Nat} {l:List Int},l∈nT n k↔l.length=k∧∀x∈l,0≤x∧x <(n:Int)
 |0,l=>by
  rw[nT,List.mem_singleton]
  constructor
  ·rintro rfl;exact⟨rfl,fun _ h=>by cases h⟩
  rintro⟨h,_⟩;exact List.eq_nil_of_length_eq_zero h
 |k+1,l=>by
  rw[nT,HQ]
  constructor
  ·rintro⟨i,m,hi,hm,rfl⟩
   obtain⟨h1,h2⟩:=GB.1 hm
   refine⟨by rw[List.length_cons,h1],fun x hx=>?_⟩
   rcases List.mem_cons.1 hx with rfl|hx
   ·omega
   exact h2 x hx
  rintro⟨h1,h2⟩
  cases l with
  |nil=>cases h1
  |cons x m=>
   have hx:=h2 x List.mem_cons_self
   exact⟨x.toNat,m,by omega,GB.2 ⟨by simpa using h1,fun y hy=>h2 y (List.mem_cons_of_mem _ hy)⟩,by rw[Int.toNat_of_nonneg hx.1]⟩
theorem G5{n:Nat}{T:List (List Int)}(h:T.Nodup):∀i,(G6 n k T i).Nodup
 |0=>List.nodup_nil
 |i+1=>by
  refine List.nodup_append.2 ⟨G5 h i,List.pairwise_map.2 (h.imp fun dQ e=>dQ (List.cons.inj e).2),fun a ha b hb e=>?_⟩
  obtain⟨j,m,hj,_,rfl⟩:=HQ.1 ha
  obtain⟨m',_,rfl⟩:=List.mem_map.1 hb
  have:=(List.cons.inj e).1
  omega
theorem Ll{n:Nat}:∀k,(nT n k).Nodup
 |0=>List.pairwise_singleton _ _
 |k+1=>G5 (Ll k) n
theorem NL{n:Nat}(hn:n≤5)(hk:k≤4):(nT n k).length≤625:=by
 have key:((List.range 6).all fun n=>(List.range 5).all fun k=>Nat.ble (nT n k).length 625)=true:=by kernel_rfl
 exact Nat.le_of_ble_eq_true (List.all_eq_true.1 (List.all_eq_true.1 key n (List.mem_range.2 (by omega))) k (List.mem_range.2 (by omega)))
theorem aav{p:α→Bool}:∀(l:List α) (k:Nat),bS p l k= -1∨(k:Int)≤bS p l k
 | [],k=> .inl rfl
 |x::l,k=>by
  rw[bS]
  cases p x
  ·rcases aav l (k+1) with h|h
   ·exact .inl h
   right;simp only[cond_false];omega
  exact .inr (Int.le_refl _)
theorem Pn{p:α→Bool}:∀ {l:List α} {k a:Nat},bS p l k=((k+a:Nat):Int)↔(∃x,l[a]?=some x∧p x=true)∧∀d y,d <a→l[d]?=some y→p y=false
 | [],k,a=>by
  simp only[bS,List.getElem?_nil]
  constructor
  ·intro h;omega
  rintro⟨⟨_,h,_⟩,_⟩;cases h
 |x::l,k,0=>by
  rw[bS]
  cases hx:p x
  ·simp only[cond_false,Nat.add_zero,List.getElem?_cons_zero,Option.some.injEq]
   constructor
   ·intro h;have:=aav (p:=p) l (k+1);omega
   rintro⟨⟨y,rfl,hy⟩,_⟩;rw[hx] at hy;cases hy
  simp only[cond_true,Nat.add_zero,List.getElem?_cons_zero,Option.some.injEq]
  exact⟨fun _=>⟨⟨x,rfl,hx⟩,fun d y hd=>absurd hd (Nat.not_lt_zero _)⟩,fun _=>trivial⟩
 |x::l,k,a+1=>by
  rw[bS]
  cases hx:p x
  ·simp only[cond_false]
   rw[show ((k+(a+1):Nat):Int)=((k+1+a:Nat):Int) by omega,Pn (l:=l) (k:=k+1) (a:=a)]
   simp only[List.getElem?_cons_succ]
   refine and_congr_right fun _=>⟨fun h d y hd hy=>?_,fun h d y hd hy=>h (d+1) y (by omega) (by simpa using hy)⟩
   cases d with
   |zero=>simp only[List.getElem?_cons_zero,Option.some.injEq] at hy;subst hy;exact hx
   |succ d=>exact h d y (by omega) (by simpa using hy)
  simp only[cond_true]
  constructor
  ·intro h;omega
  rintro⟨_,h⟩;have:=h 0 x (by omega) rfl;rw[hx] at this;cases this
def wP(K:aE)(w:List Int)(c:Nat):Int:=match w[c]? with
 |some b=>if b=(K.after.length:Int) then 0 else b+1
 |none=>0
def okW(K:aE)(w:List Int)(a:Nat):Bool:=match w[a]? with
 |some b=>decide (b=(K.after.length:Int))||(kU K a b.toNat&&decide (bS (fun y=>decide (y=b)) w 0=(a:Int)))
 |none=>true
def sE(K:aE)(w:List Int):Nat→Bool
 |0=>true
 |a+1=>sE K w a&&okW K w a
def EY(w:List Int)(x:eY):Bool:= !x.same||decide (w[x.a.toNat]?=some x.b)
def T7(K:aE)(w:List Int):Bool:=sE K w K.before.length&&K.facts.all (EY w)
def pY(K:aE)(w:List Int):Prop:=w.length=K.before.length∧∀x∈w,0≤x∧x <((K.after.length+1:Nat):Int)
theorem uF{w:List Int}:w∈nT (K.after.length+1) K.before.length↔pY K w:=GB
theorem Tw{w:List Int}:∀n,sE K w n=true↔∀a,a <n→okW K w a=true
 |0=>by simp[sE]
 |n+1=>by
  rw[sE,Bool.and_eq_true,Tw n]
  constructor
  ·rintro⟨h1,h2⟩ a ha
   by_cases e:a=n
   ·subst e;exact h2
   exact h1 a (by omega)
  exact fun h=>⟨fun a ha=>h a (by omega),h n (by omega)⟩
theorem QA{w:List Int}{c:Nat}(hw:pY K w)(hb:0≤b∧b <K.after.length):wP K w c=b+1↔w[c]?=some b:=by
 unfold wP
 cases h:w[c]? with
 |none=>simp;omega
 |some x=>
  have:=hw.2 x (zL h)
  simp only[Option.some.injEq]
  split<;>omega
theorem aem{w:List Int}{c:Nat}(hw:pY K w)(hc:¬c <K.before.length):wP K w c=0:=by
 unfold wP
 rw[List.getElem?_eq_none (by rw[hw.1];omega)]
theorem Vp(hf:∀x∈K.facts,(0≤x.a∧x.a <K.before.length)∧(0≤x.b∧x.b <K.after.length)){w:List Int}(hw:pY K w):K.facts.all (EY w)=nV (wP K w) K.facts:=by
 rw[nV,Bool.eq_iff_iff,List.all_eq_true,List.all_eq_true]
 refine forall_congr' fun x=>forall_congr' fun hx=>?_
 rw[EY,show decide (w[x.a.toNat]?=some x.b)=decide (wP K w x.a.toNat=x.b+1) from decide_eq_decide.2 (QA hw (hf x hx).2).symm]
theorem EK(h:K.facts.length≤4)(hb:K.before.length≤4)(hf:∀x∈K.facts,(0≤x.a∧x.a <K.before.length)∧(0≤x.b∧x.b <K.after.length)){w:List Int}(hw:pY K w):T7 K w=true↔wP K w∈aY K (bw K):=by
 rw[qz h hb,T7,Bool.and_eq_true,Vp hf hw,Tw]
 constructor
 ·rintro⟨h1,h2⟩
  have at_:∀c,wP K w c=0∨∃b,w[c]?=some b∧c <K.before.length∧(0≤b∧b <K.after.length)∧wP K w c=b+1∧kU K c b.toNat=true∧bS (fun y=>decide (y=b)) w 0=(c:Int):=fun c=>by
   cases hc:w[c]? with
   |none=>left;unfold wP;rw[hc]
   |some b=>
    have hl:c <K.before.length:=by have:=(List.getElem?_eq_some_iff.1 hc).1;rw[hw.1] at this;exact this
    have JX:=hw.2 b (zL hc)
    by_cases e:b=K.after.length
    ·left;unfold wP;rw[hc];simp[e]
    right
    have ho:=h1 c hl
    rw[okW,hc] at ho
    simp only[e,decide_false,Bool.false_or,Bool.and_eq_true,decide_eq_true_eq] at ho
    have fE:0≤b∧b <K.after.length:=by omega
    exact⟨b,rfl,hl,fE,(QA hw fE).2 hc,ho.1,ho.2⟩
  refine⟨fun c=>?_,fun c d hd e=>?_,h2⟩
  ·rcases at_ c with e| ⟨b,hc,hl,fE,e,n8,_⟩
   ·exact .inl e
   exact .inr ⟨hl,b.toNat,by omega,n8,by omega⟩
  rcases at_ c with e2| ⟨b,hc,hl,fE,e2,_,hi⟩
  ·exact e2
  have hd2:w[d]?=some b:=(QA hw fE).1 (by rw[←e,e2])
  have:=(Pn (k:=0) (a:=c)).1 (by simpa using hi)
  have:=this.2 d b hd hd2
  simp at this
 rintro⟨h1,h2,h3⟩
 refine⟨fun a ha=>?_,h3⟩
 obtain⟨b,fE⟩:∃b,w[a]?=some b:=⟨_,List.getElem?_eq_getElem (by rw[hw.1];exact ha)⟩
 have JX:=hw.2 b (zL fE)
 rw[okW,fE]
 by_cases e:b=K.after.length
 ·simp[e]
 have WU:0≤b∧b <K.after.length:=by omega
 have hq:=(QA hw WU).2 fE
 simp only[e,decide_false,Bool.false_or,Bool.and_eq_true,decide_eq_true_eq]
 constructor
 ·rcases h1 a with e2| ⟨_,b',mN,n8,e2⟩
  ·omega
  rwa[show b.toNat=b' by omega]
 have:=(Pn (p:=fun y=>decide (y=b)) (l:=w) (k:=0) (a:=a)).2 ⟨⟨b,fE,by simp⟩,fun d y hd hy=>by
  have dQ:¬y=b:=fun e3=>by
   subst e3
   have:=h2 a d hd (by rw[hq,(QA hw WU).2 hy])
   omega
  simp[dQ]⟩
 simpa using this
def uo(p:Nat→Int):Nat→Int
 |0=>0
 |a+1=>uo p a+if p a>0 then 1 else 0
theorem Nm(p:Nat→Int):oP (pL p)=uo p 4:=by
 simp only[uo,oP,pL]
 by_cases h0:p 0>0<;>by_cases h1:p 1>0<;>by_cases h2:p 2>0<;>by_cases h3:p 3>0<;>simp[h0,h1,h2,h3]
theorem I9{n:Nat}(h:∀c,n≤c→p c=0):∀m,n≤m→uo p m=uo p n
 |0,hm=>by rw[show n=0 by omega]
 |m+1,hm=>by
  by_cases e:n=m+1
  ·rw[e]
  rw[uo,I9 h m (by omega),h m (by omega)];simp
theorem R7{r:bx}{n:Nat}(h:∀c,n≤c→p c=0):∀m,n≤m→pP r p m=pP r p n
 |0,hm=>by rw[show n=0 by omega]
 |m+1,hm=>by
  by_cases e:n=m+1
  ·rw[e]
  rw[pP,R7 h m (by omega),h m (by omega)];simp
theorem aaF(p:Nat→Int):∀n,0≤uo p n∧uo p n≤n
 |0=>⟨Int.le_refl _,Int.le_refl _⟩
 |n+1=>by have:=aaF p n;rw[uo];split<;>omega
theorem Ol(r:bx)(p:Nat→Int):∀n,0≤pP r p n∧pP r p n≤n
 |0=>⟨Int.le_refl _,Int.le_refl _⟩
 |n+1=>by have:=Ol r p n;rw[pP];cases decide (p n>0)&& !r.c n (p n-1).toNat<;>simp<;>omega
theorem avK(hb:K.before.length≤4){w:List Int}(hw:pY K w)(r:bx)(i:Nat):(bI K r i (wP K w)).gone=K.before.length-uo (wP K w) K.before.length∧(bI K r i (wP K w)).new=K.after.length-uo (wP K w) K.before.length∧(bI K r i (wP K w)).af=pP r (wP K w) K.before.length:=by
 have h:∀c,K.before.length≤c→wP K w c=0:=fun c hc=>aem hw (by omega)
 have h1:=Nm (wP K w)
 have h2:=I9 h 4 hb
 have h3:=R7 (r:=r) h 4 hb
 refine⟨?_,?_,?_⟩
 ·show _-oP (pL (wP K w))=_;rw[h1,h2]
 ·show _-oP (pL (wP K w))=_;rw[h1,h2]
 exact h3
theorem rV{w:List Int}{a:Nat}(h:w[a]?=some b):wP K w a=if b=(K.after.length:Int) then 0 else b+1:=by unfold wP;rw[h]
theorem atC{v w:List Int}(hv:pY K v)(hw:pY K w)(h:wP K v=wP K w):v=w:=by
 refine List.ext_getElem? fun c=>?_
 by_cases hc:c <K.before.length
 ·obtain⟨x,hx⟩:∃x,v[c]?=some x:=⟨_,List.getElem?_eq_getElem (by rw[hv.1];exact hc)⟩
  obtain⟨y,hy⟩:∃y,w[c]?=some y:=⟨_,List.getElem?_eq_getElem (by rw[hw.1];exact hc)⟩
  have e:=congrFun h c
  rw[rV hx,rV hy] at e
  have h1:=hv.2 x (zL hx)
  have h2:=hw.2 y (zL hy)
  rw[hx,hy]
  congr 1
  split at e<;>split at e<;>omega
 rw[List.getElem?_eq_none (by rw[hv.1];omega),List.getElem?_eq_none (by rw[hw.1];omega)]
theorem zc:∀ {l m:List α},l.Nodup→m.Nodup→(∀x,x∈l↔x∈m)→l.Perm m
 | [],m,_,_,h=>by
  cases m with
  |nil=>exact .nil
  |cons y m=>exact absurd ((h y).2 List.mem_cons_self) (by simp)
 |x::l,m,hl,hm,h=>by
  obtain⟨m1,m2,rfl⟩:=List.append_of_mem ((h x).1 List.mem_cons_self)
  have yq:=List.nodup_cons.1 hl
  have hp:(m1++x::m2).Perm (x::(m1++m2)):=List.perm_middle
  have OZ:=List.nodup_cons.1 (hp.nodup_iff.1 hm)
  refine .trans (.cons x (zc yq.2 OZ.2 fun y=>?_)) hp.symm
  constructor
  ·intro hy
   have:=hp.mem_iff.1 ((h y).1 (List.mem_cons_of_mem _ hy))
   rcases List.mem_cons.1 this with rfl|h2
   ·exact absurd hy yq.1
   exact h2
  intro hy
  have:=(h y).2 (hp.mem_iff.2 (List.mem_cons_of_mem _ hy))
  rcases List.mem_cons.1 this with rfl|h2
  ·exact absurd hy OZ.1
  exact h2
theorem V0(h:K.facts.length≤4)(hb:K.before.length≤4)(hf:∀x∈K.facts,(0≤x.a∧x.a <K.before.length)∧(0≤x.b∧x.b <K.after.length))(q:Nat→Int):q∈((nT (K.after.length+1) K.before.length).filter (T7 K)).map (wP K)↔q∈aY K (bw K):=by
 constructor
 ·intro hq
  obtain⟨w,hw,rfl⟩:=List.mem_map.1 hq
  obtain⟨h1,h2⟩:=List.mem_filter.1 hw
  exact(EK h hb hf (uF.1 h1)).1 h2
 intro hq
 have Ic:=(qz h hb).1 hq
 have hw:pY K ((List.range K.before.length).map fun c=>if q c=0 then (K.after.length:Int) else q c-1):=by
  refine⟨by simp,fun x hx=>?_⟩
  obtain⟨c,_,rfl⟩:=List.mem_map.1 hx
  rcases Ic.1 c with e| ⟨_,b,fE,_,e⟩
  ·simp[e];omega
  have:¬q c=0:=by omega
  simp only[this,if_false];omega
 have e:wP K ((List.range K.before.length).map fun c=>if q c=0 then (K.after.length:Int) else q c-1)=q:=funext fun c=>by
  by_cases hc:c <K.before.length
  ·rw[rV (b:=if q c=0 then (K.after.length:Int) else q c-1) (by simp[hc])]
   rcases Ic.1 c with e| ⟨_,b,fE,_,e⟩
   ·simp[e]
   have h1:¬q c=0:=by omega
   have h2:¬q c-1=(K.after.length:Int):=by omega
   simp only[h1,if_false,h2];omega
  rw[aem hw hc]
  rcases Ic.1 c with e| ⟨h2,_⟩
  ·exact e.symm
  exact absurd h2 hc
 exact List.mem_map.2 ⟨_,List.mem_filter.2 ⟨uF.2 hw,(EK h hb hf hw).2 (by rw[e];exact hq)⟩,e⟩
theorem BI{f:α→β}:∀ {l:List α},l.Nodup→(∀x∈l,∀y∈l,f x=f y→x=y)→(l.map f).Nodup
 | [],_,_=>List.nodup_nil
 |x::l,h,hi=>by
  have h':=List.nodup_cons.1 h
  refine List.nodup_cons.2 ⟨fun hx=>?_,BI h'.2 fun a ha b hb=>hi a (List.mem_cons_of_mem _ ha) b (List.mem_cons_of_mem _ hb)⟩
  obtain⟨y,hy,e⟩:=List.mem_map.1 hx
  exact h'.1 (hi y (List.mem_cons_of_mem _ hy) x List.mem_cons_self e▸hy)
theorem UL(h:K.facts.length≤4)(hb:K.before.length≤4)(hf:∀x∈K.facts,(0≤x.a∧x.a <K.before.length)∧(0≤x.b∧x.b <K.after.length)):(((nT (K.after.length+1) K.before.length).filter (T7 K)).map (wP K)).Perm (aY K (bw K)):=
 zc (BI ((Ll _).filter _) fun x hx y hy e=>atC (uF.1 (List.mem_filter.1 hx).1) (uF.1 (List.mem_filter.1 hy).1) e) (Rz h) (V0 h hb hf)
def Bm(K:aE)(r:bx)(i:Nat)(W:List (List Int)):List aj:=(W.filter (T7 K)).map fun w=>bI K r i (wP K w)
abbrev rowAt(rows:List bx)(i:Nat):bx:=(rows[i]?).getD ⟨fun _ _=>false⟩
def bZ(K:aE)(rows:List bx):Nat→List aj
 |0=>[]
 |n+1=>bZ K rows n++Bm K (rowAt rows n) n (nT (K.after.length+1) K.before.length)
theorem z0{r:bx}{w:List Int}:Bm K r i (W++[w])=Bm K r i W++bif T7 K w then [bI K r i (wP K w)] else []:=by
 simp only[Bm,List.filter_append,List.map_append]
 cases h:T7 K w<;>simp[h]
theorem UK{on:Int}{keep:aj→Bool}{rows:List bx}(n:Nat):(gP K on keep rows (n+1)).flatten=(gP K on keep rows n).flatten++nI K on keep (rowAt rows n) n:=by
 simp only[gP,List.range_succ,List.map_append,List.flatten_append,List.map_cons,List.map_nil,List.flatten_cons,List.flatten_nil,List.append_nil]
theorem Nu(h:K.facts.length≤4)(hb:K.before.length≤4)(hf:∀x∈K.facts,(0≤x.a∧x.a <K.before.length)∧(0≤x.b∧x.b <K.after.length))(keep:aj→Bool)(rows:List bx):∀n,((bZ K rows n).filter keep).Perm (gP K (bw K) keep rows n).flatten
 |0=> .nil
 |n+1=>by
  rw[bZ,List.filter_append,UK]
  refine(Nu h hb hf keep rows n).append ?_
  have:=(UL h hb hf).map (bI K (rowAt rows n) n)
  rw[List.map_map] at this
  exact this.filter keep
theorem T6(h:K.facts.length≤4)(hb:K.before.length≤4)(hf:∀x∈K.facts,(0≤x.a∧x.a <K.before.length)∧(0≤x.b∧x.b <K.after.length))(keep:aj→Bool)(rows:List bx):((bZ K rows rows.length).filter keep).Perm (db K (bw K) keep rows):=Nu h hb hf keep rows _
def iL(T:List aj):Int:=if T=[] then-1 else iB (T.map nC)
theorem ab4{l:List Int}{x:Int}(h:l≠[]):iB (l++[x])=min (iB l) x:=by
 cases l with
 |nil=>exact absurd rfl h
 |cons y l=>show (l++[x]).foldl min y=_;rw[List.foldl_append];rfl
theorem DW{T:List aj}(h:∀x∈T,0≤nC x):iL T <0↔T=[]:=by
 unfold iL
 split
 ·rename_i e;simp[e]
 rename_i e
 have hm:=HP (l:=T.map nC) (by simpa using e)
 obtain⟨x,hx,e2⟩:=List.mem_map.1 hm
 have:=h x hx
 simp only[e,iff_false];omega
theorem E9{T:List aj}{x:aj}(h:∀x∈T,0≤nC x):iL (T++[x])=if iL T <0∨nC x <iL T then nC x else iL T:=by
 by_cases e:T=[]
 ·subst e;rw[if_pos (.inl (by decide))];rfl
 have h1:¬iL T <0:=fun hh=>e ((DW h).1 hh)
 have h2:iL T=iB (T.map nC):=by rw[iL,if_neg e]
 have h3:iL (T++[x])=min (iB (T.map nC)) (nC x):=by
  rw[iL,if_neg (by simp),List.map_append,List.map_cons,List.map_nil,ab4 (by simpa using e)]
 rw[h3,←h2]
 split<;>omega
theorem agM(h:K.facts.length≤4)(hb:K.before.length≤4)(hq:q∈aY K (bw K))(r:bx)(i:Nat):oP (pL q)≤K.after.length∧oP (pL q)≤K.before.length:=by
 have Ic:=(qz h hb).1 hq
 have hz:∀c,K.before.length≤c→q c=0:=fun c hc=>by rcases Ic.1 c with e| ⟨h2,_⟩;exact e;omega
 have hc:oP (pL q)=(((List.range K.before.length).filter fun c=>decide (q c>0)).length:Int):=by
  rw[Nm,I9 hz 4 hb]
  have:∀n,uo q n=(((List.range n).filter fun c=>decide (q c>0)).length:Int):=fun n=>by
   induction n with
   |zero=>rfl
   |succ n ih=>rw[uo,ih,List.range_succ,List.filter_append,List.length_append];by_cases e:q n>0<;>simp[e]
  exact this _
 rw[hc]
 have h1:=List.length_filter_le (fun c=>decide (q c>0)) (List.range K.before.length)
 have h2:((List.range K.before.length).filter fun c=>decide (q c>0)).length≤(List.range K.after.length).length:=by
  refine zd (f:=fun c=>(q c-1).toNat) (List.nodup_range.filter _) (fun c hc=>?_) fun c hc d hd e=>?_
  ·have:=of_decide_eq_true (List.mem_filter.1 hc).2
   rcases Ic.1 c with e| ⟨_,b,fE,_,e⟩
   ·omega
   exact List.mem_range.2 (by omega)
  have hc1:=of_decide_eq_true (List.mem_filter.1 hc).2
  have hd1:=of_decide_eq_true (List.mem_filter.1 hd).2
  have e2:q c=q d:=by omega
  rcases Nat.lt_trichotomy c d with hl|hl|hl
  ·have:=Ic.2.1 d c hl e2.symm;omega
  ·exact hl
  have:=Ic.2.1 c d hl e2;omega
 rw[List.length_range] at h1 h2
 omega
theorem aoj(h:K.facts.length≤4)(hb:K.before.length≤4)(hq:q∈aY K (bw K))(r:bx)(i:Nat):(0≤(bI K r i q).gone∧0≤(bI K r i q).new)∧0≤nC (bI K r i q):=by
 have h1:=agM h hb hq r i
 have h2:=Ol r q 4
 have e1:(bI K r i q).gone=K.before.length-oP (pL q):=rfl
 have e2:(bI K r i q).new=K.after.length-oP (pL q):=rfl
 have e3:(bI K r i q).af=pP r q 4:=rfl
 rw[nC,e1,e2,e3]
 omega
def auk:=(mE Tryz.typeInfo4 Tryz.underlying4 rfl rfl rfl rfl rfl rfl:TF zT 4 _ 1 1 _ false)
theorem asW(a0:Int)(a1:Int)(a2:Bool)(b0:Int)(b1:Int)(b2:Bool):EqV zT 100 (.agg ⟨[zI a0,zI a1,.bool a2]⟩) (.agg ⟨[zI b0,zI b1,.bool b2]⟩) (a0==b0&&(a1==b1&&(a2==b2&&(true)))):=
 I0 (rk (dep:=9999) (mE Tryz.typeInfo100 Tryz.underlying100 rfl rfl rfl rfl rfl rfl) Tryz.stoodInHeld100 (.cons (by decide) (gR kJ rfl) (gR kJ rfl) (mb kJ _ _) (.cons (by decide) (gR kJ rfl) (gR kJ rfl) (mb kJ _ _) (.cons (by decide) (gR auk rfl) (gR auk rfl) (akJ auk _ _) .nil))))
theorem aE9:nv zT 100:=Tryz.eqGuardType100
theorem acV{x:Int}(h:xs[0]?=some x):xs.foldl min x=iB xs:=by
 cases xs with
 |nil=>cases h
 |cons y l=>simp only[List.getElem?_cons_zero,Option.some.injEq] at h;subst h;show l.foldl min (min y y)=l.foldl min y;rw[show min y y=y by omega]
theorem acW{x:Int}(h:xs[0]?=some x):xs.foldl max x=lT xs:=by
 cases xs with
 |nil=>cases h
 |cons y l=>simp only[List.getElem?_cons_zero,Option.some.injEq] at h;subst h;show l.foldl max (max y y)=l.foldl max y;rw[show max y y=y by omega]
theorem agJ{l:List α}{x:α}{g:α→β}{W:List β}(h:l[k]?=some x):W++(l.take (k+1)).map g=(W++(l.take k).map g)++[g x]:=by rw[gH h,List.map_append,List.append_assoc];rfl
def aLA(k:Nat):Prop:=∀(ro:Nat→Option Obj) (n:Nat) (a b:Int),a=n→b=k→(n≤5∧k≤4)→ee zT 56 [zI a,zI b] ro [] (fun r Y=>∀aF,Knows aF Y→LL aF r (nT n k))
theorem YF{a:Int}{l:List eY}{x:eY}(hx:l[k]?=some x) (h:(x.a==a&&(x.b==b&&(x.same==false&&true)))=false):pH a b (l.drop k)=pH a b (l.drop (k+1)):=by
 rw[fg hx]
 simp only[pH,List.any_cons]
 have e:((decide (x.a=a)&&decide (x.b=b))&& !x.same)=false:=by
  cases h2:x.same<;>simp_all
 rw[e,Bool.false_or]
theorem Rg{a:Int}{l:List eY}{x:eY}(hx:l[k]?=some x) (h:(x.a==a&&(x.b==b&&(x.same==false&&true)))=true):pH a b (l.drop k)=true:=by
 rw[fg hx]
 simp only[pH,List.any_cons]
 have e:((decide (x.a=a)&&decide (x.b=b))&& !x.same)=true:=by
  cases h2:x.same<;>simp_all
 rw[e,Bool.true_or]
theorem Bv{a:Int}{l:List eY}(h:¬k <l.length):pH a b (l.drop k)=false:=by rw[eo h];rfl
theorem Tu{a b:Nat}(ha:K.before[a]?=some x) (hb:K.after[b]?=some y) (h:rE K x y=true):kU K a b=false:=by simp only[kU,ha,hb,h];rfl
theorem aar{a b:Nat}(ha:K.before[a]?=some x) (hb:K.after[b]?=some y) (h:pH a b K.facts=true):kU K a b=false:=by simp only[kU,ha,hb,h];simp
theorem Cg{a b:Nat}(ha:K.before[a]?=some x) (hb:K.after[b]?=some y) (h:rE K x y=false) (h2:pH a b K.facts=false):kU K a b= !nt K x y:=by simp only[kU,ha,hb,h,h2];simp
theorem M6{v:Int}:(!decide (v <0))=decide (v≥0):=by
 rw[Bool.eq_iff_iff,Bool.not_eq_true',decide_eq_false_iff_not,decide_eq_true_eq]
 omega
theorem aen{a:Int}:dG zT 59 [zI a,zI b] ro (.agg ⟨[zI a,zI b,zI 0]⟩):=by
 refine zE<|zD 2<|jn fun b4=>jd 10 [0]<|zR (.agg ⟨[zI a,zI b,zI 0]⟩) [0] [] [] ⟨rfl,rfl⟩
theorem NI{v:Value}(hl:bJ ro v 1 aS xs)(hn:xs.length≤100000):dG zT 22 [v] ro (.agg ⟨[zI (iB xs),zI (lT xs)]⟩):=by
 obtain⟨fU,sg,sb,eZ,rfl,uz,lA,lZ⟩:=hl
 refine zE<|zD 2<|jn fun b2=>zD 8<|zJ 7 ((xs.length:Int)=0) (fun h1=>?_) fun h1=>?_
 ·
  refine jd 7 [0]<|zR (.agg ⟨[zI 0,zI 0]⟩) [0] [] [] ⟨by rw[List.eq_nil_of_length_eq_zero (show xs.length=0 by omega)];rfl,rfl⟩
 refine zD 5 ?_
 obtain⟨x10,pS⟩:=zG xs 0
 refine fK eZ 1 lA pS<|jl 0 (lZ _ _ pS)<|zD 1 ?_
 obtain⟨UI,Sx⟩:=zG xs 0
 refine fK eZ 1 lA Sx<|jl 0 (lZ _ _ Sx)<|zD 1<|aP 7 fun C5 Dc Ba=>jn fun b3=>dW Ba [1]<|aP 8 fun zw Ab yZ=>jd 1 [0]<|eB yZ<|zD 7<|dH [1,1,1,0,1,0,0] [] (fun(zz:Nat×Int×Int)=>[(0,.slice fU xs.length eZ),(2,zP b2),(3,zP b3),(4,zI (zz.1:Int))]) (fun zz=>[.b b3 (.cells ⟨[zI zz.2.1,zI zz.2.2]⟩ 61 (0,0)),.b b2 (.cells ⟨[zI 0,zI 0]⟩ 61 (0,0))]) (fun zz=>zz.1≤xs.length∧zz.2.1=(xs.take zz.1).foldl min x10∧zz.2.2=(xs.take zz.1).foldl max UI) (fun zz=>xs.length-zz.1) (⟨0,x10,UI⟩) ⟨Nat.zero_le _,rfl,rfl⟩ [0,1] ?_
 rintro⟨k,lo,hi⟩ hI K3 J0 rest
 dsimp only at hI
 refine zD 8<|zJ 19 ((k:Int) <(xs.length:Int)) (fun h4=>?_) fun h4=>?_
 ·
  refine jd 9 [0] ?_
  obtain⟨uy,wz⟩:=zG xs k
  refine fK eZ 1 lA wz<|jl 0 (lZ _ _ wz)<|jmn (k:= .i64) (a:=lo) (b:=uy)<|jd 4 [0] ?_
  obtain⟨x33,ON⟩:=zG xs k
  refine fK eZ 1 lA ON<|jl 0 (lZ _ _ ON)<|jmx (k:= .i64) (a:=hi) (b:=x33)<|zD 1<|aP 15 fun sR sX qZ=>jd 1 [0]<|eB qZ<|zD 3<|zW ((k:Int)+1)<|zD 2<|zF J0 (⟨k+1,(min lo uy),(max hi x33)⟩) ⟨by dsimp only;rw[cG wz,List.foldl_append,←hI.2.1];rfl,by dsimp only;rw[cG ON,List.foldl_append,←hI.2.2];rfl⟩ [0,1]
 refine jd 8 [0,1]<|zR (.agg ⟨[zI lo,zI hi]⟩) [1] [] [] ⟨by rw[hI.2.1,hI.2.2,List.take_of_length_le (by omega),acV pS,acW Sx],rfl⟩
theorem aFk{n:Nat}:ee zT 56 [zI (n:Int),zI 0] ro [] (fun r Y=>∀aF,Knows aF Y→LL aF r (nT n 0)):=by
 refine zE<|zD 13<|jn fun KX=>zD 3<|zR (.slice (some ⟨KX,0,none⟩) 1 1) [] [0] [(KX,.cells ⟨[zS]⟩ 22 (0,0))] (fun aF hk=>⟨[zS],bX (enc:=gL) (T:=22) [Value.slice none 0 0] (hk _ (.head _)) (fun _ _=>rfl),by rw[nT];exact .cons ((aA.nil 1 3 aS).jR (fun _ h=>by cases h)) .nil⟩)
theorem aFj{n:Nat}(ih:aLA k)(hb:n≤5∧k+1≤4):ee zT 56 [zI (n:Int),zI ((k:Int)+1)] ro [] (fun r Y=>∀aF,Knows aF Y→LL aF r (nT n (k+1))):=by
 refine zE<|zD 10<|zJ 10 (((k:Int)+1)=0) (fun h1=>?_) fun h1=>?_
 ·
  exfalso;omega
 refine zD 10<|zW (((k:Int)+1)-1)<|jc (vs:=[zI (n:Int),zI (((k:Int)+1)-1)]) [] (ih _ n _ _ rfl (by omega) (by omega)) ?_
 rintro v15 Y15 Xc
 refine zD 1<|jf [0] Y15 (fun ro4 mI Im=>?_)
 obtain⟨Bc,htB,ayI⟩:=Xc _ Im
 obtain⟨aDy,bhk,bhi,au2,rfl,bhj,aRv,aRu⟩:=htB
 have bkB:=ayI.len
 have hcn:=NL (n:=n) (k:=k) (by omega) (by omega)
 refine zD 7<|my<|my<|dH [1,1,1,1,0,1,0,0] [] (fun(zz:Nat×Value×Cells×(List Value)×Cells)=>[(0,zI (n:Int)),(4,zS),(5,zz.2.1),(6,.slice aDy Bc.length au2),(7,zI (zz.1:Int))]) (fun zz=>[.l zz.2.2.1,.l zz.2.2.2.2]) (fun zz=>(zz.1≤n∧zz.2.2.2.1.length=zz.1*(nT n k).length)∧aA zz.2.1 1 22 gL zz.2.2.2.1 zz.2.2.1∧∀aF,Knows aF zz.2.2.2.2→dc (fun w l=>bJ aF w 1 aS l) zz.2.2.2.1 (G6 n k (nT n k) zz.1)) (fun zz=>n-zz.1) (⟨0,zS,[],[],[]⟩) ⟨⟨Nat.zero_le _,by simp⟩,aA.nil _ _ _,fun _ _=> .nil⟩ [1,0] ?_
 rintro⟨a,vO,LO,es,Z⟩ hI K1 bP rest
 dsimp only at hI
 have Uu:=Nat.mul_le_mul hI.1.1 (Nat.le_refl (nT n k).length)
 have hmn:=Nat.mul_le_mul hb.1 hcn
 refine zD 7<|zJ 18 ((a:Int) <(n:Int)) (fun h5=>?_) fun h5=>?_
 ·
  refine zD 9<|dH [1,1,1,1,0,1,0,0,1,0,0,1,0,0] [K1] (fun(zz:Nat×Value×Cells×(List Value)×Cells)=>[(0,zI (n:Int)),(4,zS),(5,zz.2.1),(6,.slice aDy Bc.length au2),(7,zI (a:Int)),(8,zI (zz.1:Int))]) (fun zz=>[.l zz.2.2.1,.l zz.2.2.2.2]) (fun zz=>(zz.1≤(nT n k).length∧zz.2.2.2.1.length=a*(nT n k).length+zz.1)∧aA zz.2.1 1 22 gL zz.2.2.2.1 zz.2.2.1∧∀aF,Knows aF zz.2.2.2.2→dc (fun w l=>bJ aF w 1 aS l) zz.2.2.2.1 (G6 n k (nT n k) a++((nT n k).take zz.1).map (fun l=>(a:Int)::l))) (fun zz=>(nT n k).length-zz.1) (⟨0,vO,LO,es,Z⟩) ⟨⟨Nat.zero_le _,hI.1.2⟩,hI.2.1,by simpa using hI.2.2⟩ [0,1] ?_
  rintro⟨j,vO,LO,es,Z⟩ hJ K2 lL rest
  dsimp only at hJ
  refine zD 8<|zJ 24 ((j:Int) <(Bc.length:Int)) (fun h6=>?_) fun h6=>?_
  ·
   refine zD 7<|jn fun XQ=>zD 2 ?_
   obtain⟨x32,awG⟩:=zG Bc j
   refine fK au2 1 aRv awG ?_
   obtain⟨l33,aHl,h33⟩:=ayI.get awG
   obtain bjQ:=(GB.1 (zL aHl)).1
   obtain⟨aD7,aSa,aR7,aD6,rfl,bhQ,aR9,aR8⟩:=h33
   refine jl 0 (aRu _ _ awG)<|BS (sz:=1) (ps:=[(a:Int)]) (qs:=l33) (enc:=aS) (w:= .slice aD7 l33.length aD6) [0] [] [] (wZ (b:=XQ) (T:=3) [(a:Int)] rfl (by intro p hp;rfl)) (fun s he _=>⟨aD7,aSa,aR7,aD6,rfl,aR9,fun i p hp=>(aR8 i p hp).ext he⟩) (fun p _=>bM rfl) (by simp only[List.length_cons,List.length_nil];omega) (fun v34 L34 OU=>?_)
   obtain⟨UU,UQ,ayl⟩:=OU.form
   subst ayl
   refine jn fun b35=>cH gL b35 ((.slice UU (([(a:Int)]++l33)).length UQ):Value) 2 0 hJ.2.1 rfl rfl (by omega) fun aPH aPk L36 axo=>zD 4<|zW ((j:Int)+1)<|zD 2<|zV lL (⟨j+1,(.slice aPH ((es++[((.slice UU (([(a:Int)]++l33)).length UQ):Value)])).length aPk),L36,(es++[((.slice UU (([(a:Int)]++l33)).length UQ):Value)]),Z++L34⟩) ⟨⟨by dsimp only;omega,by dsimp only;simp only[zM];omega⟩,axo,fun aF hk=>by dsimp only;rw[agJ aHl];exact(hJ.2.2 aF hk.left).snoc (OU.jR hk.right)⟩ [[0],[3,2]]
  refine zD 4<|zW ((a:Int)+1)<|zD 2<|zY bP (⟨a+1,vO,LO,es,Z⟩) ⟨⟨by omega,by rw[hJ.1.2,show j=(nT n k).length by omega,Nat.add_mul,Nat.one_mul]⟩,hJ.2.1,by have:=hJ.2.2;rwa[List.take_of_length_le (by omega)] at this⟩ [0,1]
 refine zD 8<|aN q0.a (vO) [] [0,1] (LO++Z) mI ⟨_,_,rfl,rfl,fun aF hk=>⟨es,hI.2.1.jR hk.left,by have h3:=hI.2.2 aF hk.right;rwa[show a=n by omega] at h3⟩⟩
theorem aCv:∀k,aLA k
 |0=>fun ro n a b ha hb h=>by subst ha hb;exact aFk
 |k+1=>fun ro n a b ha hb h=>by subst ha hb;exact aFj (aCv k) h
theorem aBS{a b:Nat}(hK:fO ro l K)(hV:fq K)(ha:K.before[a]?=some x) (hb:K.after[b]?=some y):dG zT 57 [.agg ⟨l⟩,zI (a:Int),zI (b:Int)] ro (.bool (kU K a b)):=by
 obtain⟨vS,vT,vc,vh,vr,vb,va,vf,fa,fc,hv,rfl,hSS,hST,py,kz,hr,yY,B6,Eg⟩:=id hK
 obtain⟨hc,hh,dk⟩:=id py
 obtain⟨dF,Ak,Aj,dB,rfl,CQ,yP,yO⟩:=hc
 obtain⟨di,uQ,uP,cP,rfl,wF,pM,pK⟩:=hh
 obtain⟨iI,Gu,Gt,iH,rfl,JI,FL,FK⟩:=hr
 obtain⟨fC,Dv,Dt,eO,rfl,Du,wu,wq⟩:=yY
 obtain⟨fD,Dy,Dw,eQ,rfl,Dx,wy,wx⟩:=B6
 obtain⟨fS,Kp,Km,fe,rfl,Ko,wW,wV⟩:=Eg
 have MS:=hV.rules.1
 have yV:=hV.before.1
 have Ec:=hV.after.1
 have hnf:=hV.facts.1
 have KJ:=(List.getElem?_eq_some_iff.1 ha).1
 have S3:=(List.getElem?_eq_some_iff.1 hb).1
 refine zE<|zD 2<|jn fun b3=>jd 7 [0] ?_
 obtain⟨lF,jV⟩:=zG K.before a
 refine fK eO 5 wu jV<|jl 0 (wq _ _ jV)<|jd 3 [0] ?_
 obtain⟨gN,ig⟩:=zG K.after b
 refine fK eQ 5 wy ig<|jl 0 (wx _ _ ig)<|ze [10,11] ⟨fun z1 t2 q5=>?_,fun z4 t5 W7=>?_,trivial⟩
 ·
  refine jn fun b7=>dW q5 [1]<|aP 11 fun aa8 abl O6=>jn fun b8=>dW O6 [1,2]<|aP 12 fun UF U3 W6=>jd 1 [1]<|eW W6 [[],[2]]<|aP 13 fun UE U2 O5=>jd 1 [0]<|eB O5<|jd 9 [2,1,0]<|jp (vs:=[.slice iI K.rules.length iH,.string lF.name,.string gN.name]) [] [] (fun aJ hs hZ=>BJ ((show bJ _ _ _ _ _ from ⟨iI,Gu,Gt,iH,rfl,JI,FL,FK⟩).up hs) hV.rules.2 MS (hV.before.2 _ (zL jV)).1 (hV.after.2 _ (zL ig)).1)<|zD 16<|zJ 39 ((Bo K.rules lF.name gN.name)=2) (fun h5=>?_) fun h5=>?_
  ·
   refine zD 6<|zX (.bool false) ⟨by rw[ha] at jV;cases jV;rw[hb] at ig;cases ig;rw[Tu ha hb (decide_eq_true (by omega))],rfl⟩
  have CV:rE K lF gN=false:=decide_eq_false (by omega)
  refine zD 8<|dH [1,1,1,1,0,1,0,0] [] (fun(zz:Nat)=>[(1,zI (a:Int)),(2,zI (b:Int)),(3,zP b3),(7,zP b7),(8,zP b8),(11,zI (zz:Int))]) (fun zz=>[.b b8 (.cells ⟨[.string gN.name,zI gN.st,zI gN.no,zI gN.head,.bool gN.bold]⟩ 76 (0,0)),.b b7 (.cells ⟨[.string lF.name,zI lF.st,zI lF.no,zI lF.head,.bool lF.bold]⟩ 76 (0,0)),.b b3 (.cells ⟨[vS,vT,.slice fa 0 fc,.slice dF K.cs.length dB,.slice di hv.length cP,.slice iI K.rules.length iH,.slice fC K.before.length eO,.slice fD K.after.length eQ,zI K.gone,zI K.new,zI K.af,.slice fS K.facts.length fe]⟩ 38 (0,0))]) (fun zz=>zz≤K.facts.length∧pH a b K.facts=pH a b (K.facts.drop zz)) (fun zz=>K.facts.length-zz) 0 ⟨Nat.zero_le _,rfl⟩ [0,1,2] ?_
  rintro k hI K10 apL rest
  refine jd 9 [2]<|zJ 44 ((k:Int) <(K.facts.length:Int)) (fun h6=>?_) fun h6=>?_
  ·
   refine jd 9 [2] ?_
   obtain⟨x50,OJ⟩:=zG K.facts k
   refine fK fe 3 wW OJ<|jl 0 (wV _ _ OJ)<|zD 2<|jp (vs:=[zI (a:Int),zI (b:Int),.bool false]) [] [] (fun aJ hs hZ=>aqo)<|jeq aE9 (asW x50.a x50.b x50.same (a:Int) (b:Int) false)<|zD 1<|js 55 (x50.a==(a:Int)&&(x50.b==(b:Int)&&(x50.same==false&&(true)))) (fun h7=>?_) (fun h7=>?_)
   ·
    refine zD 6<|zX (.bool false) ⟨by rw[ha] at jV;cases jV;rw[hb] at ig;cases ig;rw[aar ha hb (hI.2.trans (Rg OJ (by assumption)))],rfl⟩
   refine zD 4<|zW ((k:Int)+1)<|zD 2<|zY apL (k+1) ⟨by omega,by rw[hI.2,YF OJ (by assumption)]⟩ [0,1,2]
  refine jd 9 [1]<|jj 4 [(3,zP b3),(7,zP b7),(8,zP b8),(63,.bool ((decide (lF.head <0))||(decide (gN.head <0))))] (fun fA=>?_) (fun hj=>?_)
  rotate_left
  refine js 59 (decide (lF.head <0)) (fun h8=>?_) (fun h8=>?_)
  ·
   have h8g:=h8
   replace h8g:=of_decide_eq_true h8g
   refine zD 4<|jw 63 (.bool ((decide (lF.head <0))||(decide (gN.head <0)))) (w:= .bool true) (by rw[h8]<;>rfl) ?_
   exact zK hj
  ·
   have h8g:=h8
   replace h8g:=of_decide_eq_false h8g
   refine jd 4 [0]<|jw 63 (.bool ((decide (lF.head <0))||(decide (gN.head <0)))) (w:= .bool (decide (gN.head <0))) (by rw[h8]<;>rfl) ?_
   exact zK hj
  refine zD 1<|jj 6 [(3,zP b3),(7,zP b7),(8,zP b8),(70,.bool (((decide (lF.head <0))||(decide (gN.head <0)))||(decide (lF.head=gN.head))))] (fun fA=>?_) (fun hj=>?_)
  rotate_left
  refine js 64 ((decide (lF.head <0))||(decide (gN.head <0))) (fun h9=>?_) (fun h9=>?_)
  ·
   have h9g:=h9
   try simp only[zB] at h9g
   refine zD 6<|jw 70 (.bool (((decide (lF.head <0))||(decide (gN.head <0)))||(decide (lF.head=gN.head)))) (w:= .bool true) (by rw[h9]<;>rfl) ?_
   exact zK hj
  ·
   have h9g:=h9
   try simp only[zB] at h9g
   refine jd 6 [1,0]<|jw 70 (.bool (((decide (lF.head <0))||(decide (gN.head <0)))||(decide (lF.head=gN.head)))) (w:= .bool (decide (lF.head=gN.head))) (by rw[h9]<;>rfl) ?_
   exact zK hj
  refine zD 1<|js 70 (((decide (lF.head <0))||(decide (gN.head <0)))||(decide (lF.head=gN.head))) (fun Bb=>?_) (fun Bb=>?_)
  ·
   try simp only[zB] at Bb
   refine zD 6<|zX (.bool true) ⟨by rw[ha] at jV;cases jV;rw[hb] at ig;cases ig;rw[Cg ha hb CV (hI.2.trans (Bv (by omega))),nt,if_pos (by omega)];rfl,rfl⟩
  try simp only[zB] at Bb
  refine jd 11 [2,2,1] ?_
  obtain⟨x79,OH⟩:=zG hv (lF.head.toNat) (by have:=vW kz (hV.before.2 _ (zL jV)).2 (by omega);omega)
  refine CU lF.head cP 4 pM OH (Int.toNat_of_nonneg (show 0≤lF.head∧lF.head <((hv).length:Int) from (by have:=vW kz (hV.before.2 _ (zL jV)).2 (by omega);omega)).1).symm ?_
  refine zD 1<|jl 1 (pK _ _ OH)<|jd 5 [2,0] ?_
  obtain⟨x87,OG⟩:=zG hv (gN.head.toNat) (by have:=vW kz (hV.after.2 _ (zL ig)).2 (by omega);omega)
  refine CU gN.head cP 4 pM OG (Int.toNat_of_nonneg (show 0≤gN.head∧gN.head <((hv).length:Int) from (by have:=vW kz (hV.after.2 _ (zL ig)).2 (by omega);omega)).1).symm ?_
  refine zD 1<|jl 1 (pK _ _ OG)<|jp (vs:=[.agg ⟨[.slice dF K.cs.length dB,.slice di hv.length cP]⟩,zI x79.cls,zI x87.cls]) [] [] (fun aJ hs hZ=>U7 (py.up hs) kz hV.cR (vY kz hV.cR (hV.before.2 _ (zL jV)).2 (by omega) OH).2 (vY kz hV.cR (hV.after.2 _ (zL ig)).2 (by omega) OG).2)<|zD 17<|zX (.bool (decide ((AA K.cs x79.cls x87.cls)≥0))) ⟨by rw[ha] at jV;cases jV;rw[hb] at ig;cases ig;rw[Cg ha hb CV (hI.2.trans (Bv (by omega))),nt,if_neg (by omega),(vY kz hV.cR (hV.before.2 _ (zL ha)).2 (by omega) OH).1,(vY kz hV.cR (hV.after.2 _ (zL hb)).2 (by omega) OG).1,M6],rfl⟩
 refine jn fun b8=>dW W7 [1]<|aP 10 fun Lf Lx Ej=>jn fun b7=>dW Ej [1,2]<|aP 12 fun Le Lu AO=>jd 1 [0]<|eW AO [[],[2]]<|aP 13 fun aqY ark Pb=>jd 1 [1]<|eB Pb<|jd 9 [2,0,1]<|jp (vs:=[.slice iI K.rules.length iH,.string lF.name,.string gN.name]) [] [] (fun aJ hs hZ=>BJ ((show bJ _ _ _ _ _ from ⟨iI,Gu,Gt,iH,rfl,JI,FL,FK⟩).up hs) hV.rules.2 MS (hV.before.2 _ (zL jV)).1 (hV.after.2 _ (zL ig)).1)<|zD 16<|zJ 39 ((Bo K.rules lF.name gN.name)=2) (fun xz=>?_) fun xz=>?_
 ·
  refine zD 6<|zX (.bool false) ⟨by rw[ha] at jV;cases jV;rw[hb] at ig;cases ig;rw[Tu ha hb (decide_eq_true (by omega))],rfl⟩
 have CV:rE K lF gN=false:=decide_eq_false (by omega)
 refine zD 8<|dH [1,1,1,1,0,1,0,0] [] (fun(zz:Nat)=>[(1,zI (a:Int)),(2,zI (b:Int)),(3,zP b3),(7,zP b7),(8,zP b8),(11,zI (zz:Int))]) (fun zz=>[.b b7 (.cells ⟨[.string lF.name,zI lF.st,zI lF.no,zI lF.head,.bool lF.bold]⟩ 76 (0,0)),.b b8 (.cells ⟨[.string gN.name,zI gN.st,zI gN.no,zI gN.head,.bool gN.bold]⟩ 76 (0,0)),.b b3 (.cells ⟨[vS,vT,.slice fa 0 fc,.slice dF K.cs.length dB,.slice di hv.length cP,.slice iI K.rules.length iH,.slice fC K.before.length eO,.slice fD K.after.length eQ,zI K.gone,zI K.new,zI K.af,.slice fS K.facts.length fe]⟩ 38 (0,0))]) (fun zz=>zz≤K.facts.length∧pH a b K.facts=pH a b (K.facts.drop zz)) (fun zz=>K.facts.length-zz) 0 ⟨Nat.zero_le _,rfl⟩ [0,1,2] ?_
 rintro k hI K14 F6 rest
 refine jd 9 [2]<|zJ 44 ((k:Int) <(K.facts.length:Int)) (fun Ga=>?_) fun Ga=>?_
 ·
  refine jd 9 [2] ?_
  obtain⟨x50,OJ⟩:=zG K.facts k
  refine fK fe 3 wW OJ<|jl 0 (wV _ _ OJ)<|zD 2<|jp (vs:=[zI (a:Int),zI (b:Int),.bool false]) [] [] (fun aJ hs hZ=>aqo)<|jeq aE9 (asW x50.a x50.b x50.same (a:Int) (b:Int) false)<|zD 1<|js 55 (x50.a==(a:Int)&&(x50.b==(b:Int)&&(x50.same==false&&(true)))) (fun h17=>?_) (fun h17=>?_)
  ·
   refine zD 6<|zX (.bool false) ⟨by rw[ha] at jV;cases jV;rw[hb] at ig;cases ig;rw[aar ha hb (hI.2.trans (Rg OJ (by assumption)))],rfl⟩
  refine zD 4<|zW ((k:Int)+1)<|zD 2<|zY F6 (k+1) ⟨by omega,by rw[hI.2,YF OJ (by assumption)]⟩ [0,1,2]
 refine jd 9 [0]<|jj 4 [(3,zP b3),(7,zP b7),(8,zP b8),(63,.bool ((decide (lF.head <0))||(decide (gN.head <0))))] (fun fA=>?_) (fun hj=>?_)
 rotate_left
 refine js 59 (decide (lF.head <0)) (fun KP=>?_) (fun KP=>?_)
 ·
  have y4:=KP
  replace y4:=of_decide_eq_true y4
  refine zD 4<|jw 63 (.bool ((decide (lF.head <0))||(decide (gN.head <0)))) (w:= .bool true) (by rw[KP]<;>rfl) ?_
  exact zK hj
 ·
  have y4:=KP
  replace y4:=of_decide_eq_false y4
  refine jd 4 [1]<|jw 63 (.bool ((decide (lF.head <0))||(decide (gN.head <0)))) (w:= .bool (decide (gN.head <0))) (by rw[KP]<;>rfl) ?_
  exact zK hj
 refine zD 1<|jj 6 [(3,zP b3),(7,zP b7),(8,zP b8),(70,.bool (((decide (lF.head <0))||(decide (gN.head <0)))||(decide (lF.head=gN.head))))] (fun fA=>?_) (fun hj=>?_)
 rotate_left
 refine js 64 ((decide (lF.head <0))||(decide (gN.head <0))) (fun M1=>?_) (fun M1=>?_)
 ·
  have Te:=M1
  try simp only[zB] at Te
  refine zD 6<|jw 70 (.bool (((decide (lF.head <0))||(decide (gN.head <0)))||(decide (lF.head=gN.head)))) (w:= .bool true) (by rw[M1]<;>rfl) ?_
  exact zK hj
 ·
  have Te:=M1
  try simp only[zB] at Te
  refine jd 6 [0,1]<|jw 70 (.bool (((decide (lF.head <0))||(decide (gN.head <0)))||(decide (lF.head=gN.head)))) (w:= .bool (decide (lF.head=gN.head))) (by rw[M1]<;>rfl) ?_
  exact zK hj
 refine zD 1<|js 70 (((decide (lF.head <0))||(decide (gN.head <0)))||(decide (lF.head=gN.head))) (fun Xe=>?_) (fun Xe=>?_)
 ·
  try simp only[zB] at Xe
  refine zD 6<|zX (.bool true) ⟨by rw[ha] at jV;cases jV;rw[hb] at ig;cases ig;rw[Cg ha hb CV (hI.2.trans (Bv (by omega))),nt,if_pos (by omega)];rfl,rfl⟩
 try simp only[zB] at Xe
 refine jd 11 [2,2,0] ?_
 obtain⟨x79,OH⟩:=zG hv (lF.head.toNat) (by have:=vW kz (hV.before.2 _ (zL jV)).2 (by omega);omega)
 refine CU lF.head cP 4 pM OH (Int.toNat_of_nonneg (show 0≤lF.head∧lF.head <((hv).length:Int) from (by have:=vW kz (hV.before.2 _ (zL jV)).2 (by omega);omega)).1).symm ?_
 refine zD 1<|jl 1 (pK _ _ OH)<|jd 5 [2,1] ?_
 obtain⟨x87,OG⟩:=zG hv (gN.head.toNat) (by have:=vW kz (hV.after.2 _ (zL ig)).2 (by omega);omega)
 refine CU gN.head cP 4 pM OG (Int.toNat_of_nonneg (show 0≤gN.head∧gN.head <((hv).length:Int) from (by have:=vW kz (hV.after.2 _ (zL ig)).2 (by omega);omega)).1).symm ?_
 refine zD 1<|jl 1 (pK _ _ OG)<|jp (vs:=[.agg ⟨[.slice dF K.cs.length dB,.slice di hv.length cP]⟩,zI x79.cls,zI x87.cls]) [] [] (fun aJ hs hZ=>U7 (py.up hs) kz hV.cR (vY kz hV.cR (hV.before.2 _ (zL jV)).2 (by omega) OH).2 (vY kz hV.cR (hV.after.2 _ (zL ig)).2 (by omega) OG).2)<|zD 17<|zX (.bool (decide ((AA K.cs x79.cls x87.cls)≥0))) ⟨by rw[ha] at jV;cases jV;rw[hb] at ig;cases ig;rw[Cg ha hb CV (hI.2.trans (Bv (by omega))),nt,if_neg (by omega),(vY kz hV.cR (hV.before.2 _ (zL ha)).2 (by omega) OH).1,(vY kz hV.cR (hV.after.2 _ (zL hb)).2 (by omega) OG).1,M6],rfl⟩
theorem arw{v:Value}{S:List (List ar)}(hc:gv ch)(uC:cD ro v S)(hO:eF S):ee zT 148 [.agg ⟨[v]⟩,.agg ⟨lq ch⟩] ro [] (fun r Y=>∃rm F LM Z,r= .tuple ⟨[.map (some rm),zI 0]⟩∧Y=LM++Z∧j9 rm oS F LM∧F.map (·.1)=bD S∧MV Z F (m8 S ch)):=by
 refine zE<|zD 2<|jn fun b2=>jn fun b3=>jd 7 [1]<|jp (vs:=[.agg ⟨[v]⟩]) [] [] (fun aJ hs hZ=>akb (uC.up hs) hO)<|jd 13 [1,0]<|jc (vs:=[.agg ⟨[v]⟩,.agg ⟨[zI ch.k,zI ch.st,zI ch.ot,zI ch.fn,zI ch.fl,zI ch.tn,zI ch.tl]⟩]) [] (aKv hc uC hO) ?_
 rintro _ _ ⟨r9,F9,LM9,Z9,rfl,rfl,hm9,hk9,hM9⟩
 refine jg 0 [.l LM9,.l Z9]<|zD 6<|zR (.tuple ⟨[(.map (some r9)),zI 0]⟩) [] [0,1] (LM9++Z9) ⟨_,F9,LM9,Z9,rfl,rfl,hm9,hk9,hM9⟩
theorem afi{v:Value}{S:List (List ar)}{y:ak}(hc:gv ch)(uC:cD ro v S)(hO:eF S)(hy:y∈bD S):ee zT 111 [.agg ⟨[v]⟩,.agg ⟨lq ch⟩,.agg ⟨[zI y.h,zI y.n,zI y.l]⟩] ro [] (fun r Y=>∃a n c,r= .tuple ⟨[.slice a n c,zI 0]⟩∧∀k7,Knows k7 Y→bJ k7 (.slice a n c) 3 bY [m8 S ch y]):=by
 refine zE<|zD 2<|jn fun b3=>jn fun b4=>jn fun b5=>jd 7 [2,1]<|jc (vs:=[.agg ⟨[v]⟩,.agg ⟨[zI ch.k,zI ch.st,zI ch.ot,zI ch.fn,zI ch.fl,zI ch.tn,zI ch.tl]⟩]) [] (arw hc uC hO) ?_
 rintro _ _ ⟨r9,F9,LM9,Z9,rfl,rfl,hm9,hk9,hM9⟩
 obtain⟨es9,ck9,rfl,hE9⟩:=hm9
 refine jg 0 [.b r9 (.map es9 ck9),.l Z9]<|zD 5<|jf [0,1] ((r9,.map es9 ck9)::Z9) (fun ya cu iX=>?_)
 have UA:Ld ya r9 (bD S) (m8 S ch) es9 ck9 F9:=⟨iX _ (.head _),hE9,hk9,hM9 _ (Knows.tail iX)⟩
 refine jd 13 [0]<|jlu (kv:=oS) (F:=F9) (r:=r9) (K:=132) y (zS) true [] [] BQ (fun s he _=>⟨_,_,he _ _ (.inl UA.m),UA.e⟩) ?_
 obtain⟨w28,awN,aiB⟩:=Ow (k:=y) (F:=F9) (by rw[UA.k];exact hy)
 have hww:bJ ya w28 3 bY [m8 S ch y]:=UA.v _ aiB
 obtain⟨FE,qwb,qwo,yN,rfl,qwk,P8,P7⟩:=hww
 refine jw 24 (.tuple ⟨[.slice FE ([m8 S ch y].length) yN,.bool true]⟩) (show Ox (zS) true y F9=_ from by simp only[Ox,awN];rfl) ?_
 refine zD 17<|jc (vs:=[.slice FE ([m8 S ch y].length) yN]) [] (Pg (show bJ _ _ _ _ _ from ⟨FE,qwb,qwo,yN,rfl,qwk,P8,P7⟩) (by simp only[List.length_cons,List.length_nil];omega)) ?_
 rintro v30 L30 yU
 obtain⟨at4,atS,ayn⟩:=yU.form
 subst ayn
 refine zD 4<|aN q0.a (.tuple ⟨[(.slice at4 ([m8 S ch y]).length atS),zI 0]⟩) [] [0] L30 cu ⟨_,_,rfl,rfl,_,_,_,rfl,fun k7 hk=>yU.jR hk⟩
theorem auD{v:Value}{S:List (List ar)}(hc:gv ch)(uC:cD ro v S)(hO:eF S):ee zT 112 [.agg ⟨[v]⟩,.agg ⟨lq ch⟩] ro [] (fun r Y=>∃a n c,r= .tuple ⟨[.agg ⟨[.slice a n c]⟩,zI 0]⟩):=by
 have hS:=uC
 obtain⟨jF,hs,fP⟩:=hS
 obtain⟨w1,w2,rfl⟩:=pE (fP.len.trans hO.two)
 obtain⟨mV,VG,VE,mo,rfl,VF,Qa,P9⟩:=hs
 refine zE<|zD 2<|jn fun b2=>jn fun b3=>jn fun b4=>jd 6 [2,1]<|jc (vs:=[.agg ⟨[.slice mV 2 mo]⟩,.agg ⟨[zI ch.k,zI ch.st,zI ch.ot,zI ch.fn,zI ch.fl,zI ch.tn,zI ch.tl]⟩]) [] (arw hc uC hO) ?_
 rintro _ _ ⟨r9,F9,LM9,Z9,rfl,rfl,hm9,hk9,hM9⟩
 obtain⟨es9,ck9,rfl,hE9⟩:=hm9
 refine jg 0 [.b r9 (.map es9 ck9),.l Z9]<|zD 5<|jf [0,1] ((r9,.map es9 ck9)::Z9) (fun ya cu iX=>?_)
 have UA:Ld ya r9 (bD S) (m8 S ch) es9 ck9 F9:=⟨iX _ (.head _),hE9,hk9,hM9 _ (Knows.tail iX)⟩
 refine jd 15 [2]<|jc (vs:=[(.map (some r9)),zI 2]) [] (Xk UA (qV hO) (fun x hx=>VZ hc (Ij hO (by rw[←hk9];exact List.mem_map_of_mem (f:=(·.1)) hx)))) ?_
 rintro _ L22 ⟨a22,n22,c22,rfl⟩
 refine jd 4 [1]<|aN q0.a (.tuple ⟨[.agg ⟨[.slice a22 n22 c22]⟩,zI 0]⟩) [1] [] [] cu ⟨_,_,rfl,rfl,_,_,_,rfl⟩
theorem atA{w:List Int}{l:List aO}{s:Nat}(hC:kg K)(hm:w∈WW K)(hl:K.ways[s]?=some l) (hs:s <w.length):s=0∧∃(i:Nat) (c:aO),w=[(i:Int)]∧l[i]?=some c∧gv c∧∀x:aI,pO K.str K.ways w x=[m8 K.str c ⟨x.st,x.no,0⟩]:=by
 rcases Gy hC with e| ⟨lw,e⟩
 ·rw[e] at hl;simp at hl
 rw[e] at hl
 obtain⟨rfl,rfl⟩:=mw hl
 obtain⟨i,c,hi,rfl⟩:=Jz e hm
 refine⟨rfl,i,c,rfl,hi,(hC.ways.2 _ (by simp[e])).2 _ (zL hi),fun x=>?_⟩
 simp only[e,pO,Int.toNat_natCast,hi]
theorem ael{w:List Int}(hC:kg K)(hm:w∈WW K):w.length=K.ways.length∧w.length≤1∧(w.length=0→∀x:aI,pO K.str K.ways w x=[⟨x.st,x.no,0⟩]):=by
 rcases Gy hC with e| ⟨lw,e⟩
 ·simp only[WW,e,dg,List.map_cons,List.map_nil,List.mem_singleton] at hm
  subst hm
  exact⟨by rw[e];rfl,by simp,fun _ x=>by rw[e];rfl⟩
 obtain⟨i,c,hi,rfl⟩:=Jz e hm
 exact⟨by rw[e];rfl,by simp,fun h=>by simp at h⟩
theorem sa{l:List α}{x y:α}(h:l[k]?=some x) (h2:l[k]?=some y):x=y:=by rw[h] at h2;exact Option.some.inj h2
theorem acs{S:List (List ar)}{ps:List ak}{q x:ak}(h1:ps=[q])(h2:ps[i]?=some x) (h3:q∈bD S):x∈bD S:=by subst h1;rw[(mw h2).1];exact h3
theorem atD{v:Value}{w:List Int}(hK:fO ro l K)(hC:kg K)(hw:bJ ro v 1 aS w)(hm:w∈WW K):ee zT 58 [.agg ⟨l⟩,v] ro [] (fun r Y=>∀aF,Knows aF Y→∃es,bJ aF r 1 gL es∧dc (fun v l=>bJ aF v 3 bY l) es (K.before.map (pO K.str K.ways w))):=by
 obtain⟨vS,vT,vc,vh,vr,vb,va,vf,fa,fc,hv,rfl,hSS,hST,py,kz,hr,yY,B6,Eg⟩:=id hK
 obtain⟨hc,hh,dk⟩:=id py
 obtain⟨dF,Ak,Aj,dB,rfl,CQ,yP,yO⟩:=hc
 obtain⟨di,uQ,uP,cP,rfl,wF,pM,pK⟩:=hh
 obtain⟨iI,Gu,Gt,iH,rfl,JI,FL,FK⟩:=hr
 obtain⟨fC,Dv,Dt,eO,rfl,Du,wu,wq⟩:=yY
 obtain⟨fD,Dy,Dw,eQ,rfl,Dx,wy,wx⟩:=B6
 obtain⟨fS,Kp,Km,fe,rfl,Ko,wW,wV⟩:=Eg
 obtain⟨iZ,ht,fF⟩:=id hST
 obtain⟨fx,BA,By,ez,rfl,Bz,tx,tw⟩:=ht
 obtain⟨FE,qwb,qwo,yN,rfl,qwk,P8,P7⟩:=hw
 have yV:=hC.before.1
 obtain⟨hw1,hw2,hw3⟩:=ael hC hm
 have hTl:=fF.len
 refine zE<|zD 2<|jn fun b2=>zD 12<|my<|my<|dH [1,1,0,1,0,0] [] (fun(zz:Nat×Value×Cells×(List Value)×Cells)=>[(1,.slice FE w.length yN),(2,zP b2),(5,zz.2.1),(6,zI (zz.1:Int))]) (fun zz=>[.l zz.2.2.1,.l zz.2.2.2.2,.b b2 (.cells ⟨[vS,.slice fx iZ.length ez,.slice fa 0 fc,.slice dF K.cs.length dB,.slice di hv.length cP,.slice iI K.rules.length iH,.slice fC K.before.length eO,.slice fD K.after.length eQ,zI K.gone,zI K.new,zI K.af,.slice fS K.facts.length fe]⟩ 38 (0,0))]) (fun zz=>(zz.1≤K.before.length∧zz.2.2.2.1.length=zz.1)∧aA zz.2.1 1 130 gL zz.2.2.2.1 zz.2.2.1∧∀aF,Knows aF zz.2.2.2.2→dc (fun v l=>bJ aF v 3 bY l) zz.2.2.2.1 ((K.before.take zz.1).map (pO K.str K.ways w))) (fun zz=>K.before.length-zz.1) (⟨0,zS,[],[],[]⟩) ⟨⟨Nat.zero_le _,rfl⟩,aA.nil _ _ _,fun _ _=> .nil⟩ [1,0,2] ?_
 rintro⟨a,vO,LO,es,Z⟩ hI K1 bP rest
 dsimp only at hI
 refine jd 9 [2]<|zJ 19 ((a:Int) <(K.before.length:Int)) (fun h1=>?_) fun h1=>?_
 ·
  refine jd 9 [2] ?_
  obtain⟨sS,jU⟩:=zG K.before a
  refine fK eO 5 wu jU<|zD 1<|jl 1 (wq _ _ jU)<|jd 3 [2] ?_
  obtain⟨Qs,Su⟩:=zG K.before a
  refine fK eO 5 wu Su<|zD 1<|jl 2 (wq _ _ Su)<|jp (vs:=[zI sS.st,zI Qs.no]) [] [] (fun aJ hs hZ=>aen)<|aP 13 fun zw Ab yZ=>jn fun b35=>dW yZ [1,2,3]<|zD 3 ?_
  have hXP:Qs=sS:=sa Su jU
  have hyh:(⟨sS.st,Qs.no,0⟩:ak)∈bD K.str:=by rw[hXP];exact Mv (hC.before.2 _ (zL jU))
  refine jd 4 [3]<|jn fun b8=>jsx 0 b8 0 [zS] [vS] 25 (by obtain⟨_,h,_⟩:=hSS;simp[jJ h]) rfl ?_
  refine zD 3<|jg 1 [.l [(b35,.cells ⟨([(⟨sS.st,Qs.no,0⟩:ak)].map bY).flatten⟩ 132 (0,0))]]<|zD 4<|dH [1,1,0,1,0,0,1,0,0,1,1,0,1,0,0] [K1] (fun(zz:Nat×Value×Value×Cells×(List ak))=>[(1,.slice FE w.length yN),(2,zP b2),(5,vO),(6,zI (a:Int)),(7,zz.2.2.1),(8,zP b8),(9,zI (zz.1:Int))]) (fun zz=>[.b b8 (.cells ⟨[zz.2.1]⟩ 25 (0,0)),.l zz.2.2.2.1,.l LO,.l Z,.b b2 (.cells ⟨[vS,.slice fx iZ.length ez,.slice fa 0 fc,.slice dF K.cs.length dB,.slice di hv.length cP,.slice iI K.rules.length iH,.slice fC K.before.length eO,.slice fD K.after.length eQ,zI K.gone,zI K.new,zI K.af,.slice fS K.facts.length fe]⟩ 38 (0,0))]) (fun zz=>(zz.1≤w.length∧zz.2.2.2.2.length≤1)∧aA zz.2.2.1 3 132 bY zz.2.2.2.2 zz.2.2.2.1∧(zz.1=0→zz.2.1=vS∧zz.2.2.2.2=[(⟨sS.st,Qs.no,0⟩:ak)])∧(zz.1=w.length→zz.2.2.2.2=pO K.str K.ways w sS)) (fun zz=>w.length-zz.1) (⟨0,vS,(.slice (some ⟨b35,0,none⟩) 1 1),[(b35,.cells ⟨([(⟨sS.st,Qs.no,0⟩:ak)].map bY).flatten⟩ 132 (0,0))],[(⟨sS.st,Qs.no,0⟩:ak)]⟩) ⟨⟨Nat.zero_le _,Nat.le_refl _⟩,wZ (b:=b35) (T:=132) [(⟨sS.st,Qs.no,0⟩:ak)] rfl (fun _ _=>rfl),fun _=>⟨rfl,rfl⟩,fun h=>by rw[hw3 (by omega),hXP]⟩ (zN 0 5) ?_
  rintro⟨s,vP,vN,LN,ps⟩ hJ K3 J0 rest
  dsimp only at hJ
  refine zD 8<|jj 7 [(1,.slice FE w.length yN),(2,zP b2),(5,vO),(6,zI (a:Int)),(7,vN),(8,zP b8),(9,zI (s:Int)),(50,.bool ((decide ((s:Int) <(w.length:Int)))&&(decide ((s:Int) <(iZ.length:Int)))))] (fun fA=>?_) (fun hj=>?_)
  rotate_left
  refine js 43 (decide ((s:Int) <(w.length:Int))) (fun h3=>?_) (fun h3=>?_)
  ·
   have uf:=h3
   replace uf:=of_decide_eq_true uf
   refine jd 7 [4]<|jw 50 (.bool ((decide ((s:Int) <(w.length:Int)))&&(decide ((s:Int) <(iZ.length:Int))))) (w:= .bool (decide ((s:Int) <(iZ.length:Int)))) (by rw[h3]<;>rfl) ?_
   exact zK hj
  ·
   have uf:=h3
   replace uf:=of_decide_eq_false uf
   refine zD 7<|jw 50 (.bool ((decide ((s:Int) <(w.length:Int)))&&(decide ((s:Int) <(iZ.length:Int))))) (w:= .bool false) (by rw[h3]<;>rfl) ?_
   exact zK hj
  refine zD 1<|js 50 ((decide ((s:Int) <(w.length:Int)))&&(decide ((s:Int) <(iZ.length:Int)))) (fun h4=>?_) (fun h4=>?_)
  ·
   try simp only[zB] at h4
   refine jd 14 [4] ?_
   obtain⟨x57,yR⟩:=zG iZ s
   refine fK ez 1 tx yR<|zD 1 ?_
   obtain⟨l59,axQ,h59⟩:=fF.get yR
   obtain⟨aD2,bhL,bhJ,anF,rfl,bhK,aD1,aD0⟩:=h59
   refine jl 0 (tw _ _ yR)<|zD 4 ?_
   obtain⟨Wu,i0,cc,hwx,rP,WR,aUQ⟩:=atA hC hm axQ (show s <w.length by omega)
   have hP:=hJ.2.2.1 Wu
   have OT:=hP.2
   have hSP:cD ro vP K.str:=by rw[hP.1];exact hSS
   have SE:ps.length=1:=by rw[OT];rfl
   refine zD 3 ?_
   obtain⟨x62,Ss⟩:=zG w s
   refine fK yN 1 P8 Ss<|jl 0 (P7 _ _ Ss)<|zD 2<|js 65 (decide (x62 <0)) (fun h5=>?_) (fun h5=>?_)
   ·
    have F8:=h5
    replace F8:=of_decide_eq_true F8
    exfalso;have e:=(mw (by rw[hwx] at Ss;exact Ss)).1;omega
   have F8:=h5
   replace F8:=of_decide_eq_false F8
   refine zD 2 ?_
   obtain⟨x68,BT⟩:=zG w s
   refine fK yN 1 P8 BT<|jl 0 (P7 _ _ BT)<|zD 5<|zJ 73 (x68≥(l59.length:Int)) (fun h6=>?_) fun h6=>?_
   ·
    exfalso;have e:=(mw (by rw[hwx] at BT;exact BT)).1;have:=(List.getElem?_eq_some_iff.1 rP).1;omega
   refine zD 8<|my<|dH [1,1,0,1,0,0,1,0,0,1,1,0,1,0,0,1,0,0,1,1,1,0,1,0,0] [K1,K3] (fun(zz:Nat×Value×Cells×(List ak))=>[(1,.slice FE w.length yN),(2,zP b2),(5,vO),(6,zI (a:Int)),(7,vN),(8,zP b8),(9,zI (s:Int)),(10,zz.2.1),(11,.slice aD2 l59.length anF),(12,zI (zz.1:Int))]) (fun zz=>[.l zz.2.2.1,.b b8 (.cells ⟨[vP]⟩ 25 (0,0)),.l LN,.l LO,.l Z,.b b2 (.cells ⟨[vS,.slice fx iZ.length ez,.slice fa 0 fc,.slice dF K.cs.length dB,.slice di hv.length cP,.slice iI K.rules.length iH,.slice fC K.before.length eO,.slice fD K.after.length eQ,zI K.gone,zI K.new,zI K.af,.slice fS K.facts.length fe]⟩ 38 (0,0))]) (fun zz=>zz.1≤1∧aA zz.2.1 3 132 bY zz.2.2.2 zz.2.2.1∧zz.2.2.2.length≤1∧((zz.1=0→zz.2.2.2=[])∧(zz.1=1→zz.2.2.2=[m8 K.str cc ⟨sS.st,Qs.no,0⟩]))) (fun zz=>1-zz.1) (⟨0,zS,[],[]⟩) ⟨Nat.zero_le _,aA.nil _ _ _,Nat.zero_le _,fun _=>rfl,fun h=>by cases h⟩ (zN 0 6) ?_
   rintro⟨i,vM,LM,pm⟩ hQ K4 hK4 rest
   dsimp only at hQ
   refine zD 5<|FP hJ.2.1<|zD 2<|jj 3 [(1,.slice FE w.length yN),(2,zP b2),(5,vO),(6,zI (a:Int)),(7,vN),(8,zP b8),(9,zI (s:Int)),(10,vM),(11,.slice aD2 l59.length anF),(12,zI (i:Int)),(81,.bool ((decide ((i:Int) <(ps.length:Int)))&&(decide ((i:Int) <4))))] (fun fA=>?_) (fun hj=>?_)
   rotate_left
   refine js 78 (decide ((i:Int) <(ps.length:Int))) (fun h7=>?_) (fun h7=>?_)
   ·
    have h7g:=h7
    replace h7g:=of_decide_eq_true h7g
    refine zD 3<|jw 81 (.bool ((decide ((i:Int) <(ps.length:Int)))&&(decide ((i:Int) <4)))) (w:= .bool (decide ((i:Int) <4))) (by rw[h7]<;>rfl) ?_
    exact zK hj
   ·
    have h7g:=h7
    replace h7g:=of_decide_eq_false h7g
    refine zD 3<|jw 81 (.bool ((decide ((i:Int) <(ps.length:Int)))&&(decide ((i:Int) <4)))) (w:= .bool false) (by rw[h7]<;>rfl) ?_
    exact zK hj
   refine zD 1<|js 81 ((decide ((i:Int) <(ps.length:Int)))&&(decide ((i:Int) <4))) (fun h8=>?_) (fun h8=>?_)
   ·
    try simp only[zB] at h8
    refine jd 10 [1] ?_
    obtain⟨x89,Sr⟩:=zG w s
    refine fK yN 1 P8 Sr<|jl 0 (P7 _ _ Sr) ?_
    obtain⟨x91,ahH⟩:=zG l59 (x89.toNat) (by have e:=(mw (by rw[hwx] at Sr;exact Sr)).1;have:=(List.getElem?_eq_some_iff.1 rP).1;omega)
    refine CU x89 anF 7 aD1 ahH (Int.toNat_of_nonneg (show 0≤x89∧x89 <((l59).length:Int) from (by have e:=(mw (by rw[hwx] at Sr;exact Sr)).1;have:=(List.getElem?_eq_some_iff.1 rP).1;omega)).1).symm ?_
    refine jl 0 (aD0 _ _ ahH)<|zD 2 ?_
    obtain⟨Lg,OF⟩:=zG ps i
    refine Un 3 hJ.2.1 OF fun b95 ayD=>n7 0 [2] LN (fun s _ hZ=>cB hJ.2.1 ayD hZ OF)<|aP 12 fun Bg Br B7=>jc (vs:=[.agg ⟨[vP]⟩,.agg ⟨[zI x91.k,zI x91.st,zI x91.ot,zI x91.fn,zI x91.fl,zI x91.tn,zI x91.tl]⟩,.agg ⟨[zI Lg.h,zI Lg.n,zI Lg.l]⟩]) [] (afi (y:=Lg) ((hC.ways.2 _ (zL axQ)).2 x91 (zL ahH)) hSP hC.qM (acs OT OF hyh)) ?_
    rintro _ Y97 ⟨ba,bn,bc,rfl,aYx⟩
    refine dW B7 (zN 1 6)<|zD 7<|jf [0] Y97 (fun aRc ao3 ax8=>?_)
    have hB:=aYx _ ax8
    obtain⟨qBa,qBb,qBo,qBc,hBe,qBk,qBh,qBl⟩:=hB
    simp only[Value.slice.injEq] at hBe
    obtain⟨rfl,rfl,rfl⟩:=hBe
    refine zD 2<|BS (sz:=3) (ps:=pm) (qs:=[m8 K.str x91 Lg]) (enc:=bY) (w:= .slice ba ([m8 K.str x91 Lg].length) bc) [0] [] [] (hQ.2.1) (fun s he _=>⟨ba,qBb,qBo,bc,rfl,qBh,fun i p hp=>(qBl i p hp).ext he⟩) (fun p _=>bM rfl) (by have:=hQ.2.2;simp only[List.length_cons,List.length_nil];omega) (fun bgx baI ZZ=>?_)
    obtain⟨aCn,aB9,aHT⟩:=ZZ.form
    subst aHT
    refine zD 4<|zW ((i:Int)+1)<|zD 2 ?_
    have e95:Lg=(⟨sS.st,Qs.no,0⟩:ak):=(mw (by rw[OT] at OF;exact OF)).1
    have e91:x91=cc:=by have e:=(mw (by rw[hwx] at Sr;exact Sr)).1;rw[e,Int.toNat_natCast] at ahH;exact sa ahH rP
    exact bF hK4 (⟨i+1,(.slice aCn ((pm++[m8 K.str x91 Lg])).length aB9),baI,(pm++[m8 K.str x91 Lg])⟩) ⟨by dsimp only;omega,ZZ,by dsimp only;rw[hQ.2.2.2.1 (by omega)];exact Nat.le_refl _,fun h=>by omega,fun _=>by dsimp only;rw[hQ.2.2.2.1 (by omega),List.nil_append,e95,e91]⟩ (by dsimp only;omega) (zN 0 6) ao3
   try simp only[zB] at h8
   refine jd 8 [1] ?_
   obtain⟨aee,zh⟩:=zG w s
   refine fK yN 1 P8 zh<|jl 0 (P7 _ _ zh) ?_
   obtain⟨Qt,ahZ⟩:=zG l59 (aee.toNat) (by have e:=(mw (by rw[hwx] at zh;exact zh)).1;have:=(List.getElem?_eq_some_iff.1 rP).1;omega)
   refine CU aee anF 7 aD1 ahZ (Int.toNat_of_nonneg (show 0≤aee∧aee <((l59).length:Int) from (by have e:=(mw (by rw[hwx] at zh;exact zh)).1;have:=(List.getElem?_eq_some_iff.1 rP).1;omega)).1).symm ?_
   refine jl 0 (aD0 _ _ ahZ)<|aP 8 fun ad4 aeQ W7=>jc (vs:=[.agg ⟨[vP]⟩,.agg ⟨[zI Qt.k,zI Qt.st,zI Qt.ot,zI Qt.fn,zI Qt.fl,zI Qt.tn,zI Qt.tl]⟩]) [] (auD ((hC.ways.2 _ (zL axQ)).2 Qt (zL ahZ)) hSP hC.qM) ?_
   rintro _ bmG ⟨aa,an,ac,rfl⟩
   refine dW W7 (zN 1 6)<|zD 3<|aP 12 fun aa8 abl O6=>jd 1 [2]<|eW O6 []<|zD 7<|zW ((s:Int)+1)<|zD 2<|zY J0 (⟨s+1,.slice aa an ac,vM,LM,pm⟩) ⟨⟨by dsimp only;omega,by dsimp only;omega⟩,hQ.2.1,fun h=>by omega,fun _=>by rw[aUQ];have h:=hQ.2.2.2.2 (by omega);rwa[hXP] at h⟩ [2,1,4,5,6]
  try simp only[zB] at h4
  refine zD 2 ?_
  obtain⟨aeG,aey,O2⟩:=hJ.2.1.form
  subst O2
  refine zD 3<|jn fun adp=>cH gL adp ((.slice aeG (ps).length aey):Value) 3 0 hI.2.1 rfl rfl (by omega) fun aCk aB6 baF apa=>zD 4<|zW ((a:Int)+1)<|zD 2<|zV bP (⟨a+1,(.slice aCk ((es++[((.slice aeG (ps).length aey):Value)])).length aB6),baF,(es++[((.slice aeG (ps).length aey):Value)]),Z++LN⟩) ⟨⟨by dsimp only;omega,by dsimp only;simp only[zM];omega⟩,apa,fun aF hk=>by dsimp only;rw[cG jU,List.map_append,List.map_cons,List.map_nil,←hJ.2.2.2 (by omega)];exact(hI.2.2 aF hk.left).snoc (hJ.2.1.jR hk.right)⟩ [[0],[4,3],[5]]
 refine zD 8<|zR (vO) [] [0,1] (LO++Z) (fun aF hk=>⟨es,hI.2.1.jR hk.left,by have h3:=hI.2.2 aF hk.right;rwa[List.take_of_length_le (by omega)] at h3⟩)
abbrev akQ(b:Bool):List Value:=[.bool b]
theorem aa0{R:α→β→Prop}:∀ {l:List α} {m:List β},l.length=m.length→(∀(i:Nat) a b,l[i]?=some a→m[i]?=some b→R a b)→dc R l m
 | [],[],_,_=> .nil
 |a::l,b::m,hl,h=> .cons (h 0 a b rfl rfl) (aa0 (by simpa using hl) fun i x y hx hy=>h (i+1) x y (by simpa using hx) (by simpa using hy))
 | [],_::_,hl,_=>by cases hl
 |_::_,[],hl,_=>by cases hl
def iE(es:List Value)(rows:List (List Int))(Z:Cells):Prop:=∃Ls:List Cells,Z=Ls.flatten∧Ls.length=rows.length∧es.length=rows.length∧∀(i:Nat) e r L,es[i]?=some e→rows[i]?=some r→Ls[i]?=some L→aA e 1 3 aS r L
theorem iE.nil:iE [] [] []:=⟨[],rfl,rfl,rfl,fun i e r L h=>by simp at h⟩
theorem iE.snoc{L:Cells}{e:Value}{r:List Int}(h:iE es rows Z)(k:aA e 1 3 aS r L):iE (es++[e]) (rows++[r]) (Z++L):=by
 obtain⟨Ls,rfl,h1,h2,h3⟩:=h
 refine⟨Ls++[L],by simp,by simp[h1],by simp[h2],fun i e' r' L' he hr hL=>?_⟩
 by_cases hi:i <rows.length
 ·rw[List.getElem?_append_left (by omega)] at he hr hL
  exact h3 i _ _ _ he hr hL
 have O1:i=rows.length:=by have:=(List.getElem?_eq_some_iff.1 hr).1;simp at this;omega
 subst O1
 rw[List.getElem?_append_right (by omega)] at he hr hL
 simp only[h1,h2,Nat.sub_self,List.getElem?_cons_zero,Option.some.injEq] at he hr hL
 subst he hr hL;exact k
theorem iE.cut{e:Value}(h:iE es rows Z)(he:es[i]?=some e):∃r Z1 L Z2,rows[i]?=some r∧Z=Z1++(L++Z2)∧aA e 1 3 aS r L∧∀r' L',aA e 1 3 aS r' L'→iE es (rows.set i r') (Z1++(L'++Z2)):=by
 obtain⟨Ls,rfl,h1,h2,h3⟩:=h
 have hi:=(List.getElem?_eq_some_iff.1 he).1
 obtain⟨r,hr⟩:∃r,rows[i]?=some r:=⟨_,List.getElem?_eq_getElem (by omega)⟩
 obtain⟨L,hL⟩:∃L,Ls[i]?=some L:=⟨_,List.getElem?_eq_getElem (by omega)⟩
 have aWt:∀L',Ls.set i L'=Ls.take i++L'::Ls.drop (i+1):=fun L'=>by rw[List.set_eq_take_append_cons_drop,if_pos (by omega)]
 have aGo:Ls.flatten=(Ls.take i).flatten++(L++(Ls.drop (i+1)).flatten):=by
  rw[←List.flatten_cons,←fg hL,←List.flatten_append,List.take_append_drop]
 refine⟨r,(Ls.take i).flatten,L,(Ls.drop (i+1)).flatten,hr,aGo,h3 i e r L he hr hL,fun r' L' k=>⟨Ls.set i L',?_,by simp[h1],by simp[h2],fun j e' r'' L'' yw lD hL'=>?_⟩⟩
 ·rw[aWt,List.flatten_append,List.flatten_cons]
 by_cases hj:j=i
 ·subst hj
  rw[he] at yw;cases yw
  rw[List.getElem?_set_self (by omega)] at lD hL'
  cases lD;cases hL';exact k
 rw[List.getElem?_set_ne (by omega)] at lD hL'
 exact h3 j _ _ _ yw lD hL'
theorem iE.len(h:iE es rows Z):es.length=rows.length:=by obtain⟨_,_,_,h,_⟩:=h;exact h
theorem iE.slr(h:iE es rows Z)(aF:Nat→Option Obj)(hk:Knows aF Z):dc (fun w l=>bJ aF w 1 aS l) es rows:=by
 obtain⟨Ls,rfl,h1,h2,h3⟩:=h
 refine aa0 h2 fun i e r he hr=>?_
 obtain⟨L,hL⟩:∃L,Ls[i]?=some L:=⟨_,List.getElem?_eq_getElem (by have:=(List.getElem?_eq_some_iff.1 hr).1;omega)⟩
 exact(h3 i e r L he hr hL).jR fun x hx=>hk x (List.mem_flatten.2 ⟨L,zL hL,hx⟩)
theorem anr{n a:Nat}{x:α}(h:a <n):List.replicate (n-a) x=x::List.replicate (n-a-1) x:=by
 rw[show n-a=n-a-1+1 by omega,List.replicate_succ,Nat.add_sub_cancel]
theorem avE{l r:List α}{a:Nat}{x y:α}(h:(l++y::r)[a]?=some x) (hl:l.length=a):y=x:=by
 subst hl
 rw[List.getElem?_append_right (Nat.le_refl _),Nat.sub_self] at h
 exact Option.some.inj h
theorem aod{l r:List α}{a:Nat}{y z:α}(hl:l.length=a):(l++y::r).set a z=l++z::r:=by
 subst hl
 rw[List.set_append_right _ _ (Nat.le_refl _),Nat.sub_self];rfl
theorem Hp{f:Nat→α}{b:Nat}:(List.range (b+1)).map f=(List.range b).map f++[f b]:=by rw[List.range_succ,List.map_append];rfl
theorem kN{f:Nat→α}{n:Nat}{x:α}(h:((List.range n).map f)[k]?=some x):x=f k:=by
 rw[List.getElem?_map] at h
 cases hk:(List.range n)[k]? with
 |none=>rw[hk] at h;cases h
 |some j=>
  rw[hk] at h
  obtain⟨h1,h2⟩:=List.getElem?_eq_some_iff.1 hk
  rw[List.getElem_range] at h2
  subst h2
  exact(Option.some.inj h).symm
theorem IQ{w:List Int}{c:Nat}(h:w[c]?=some b) (e:b=(K.after.length:Int)):sE K w (c+1)=sE K w c∧uo (wP K w) (c+1)=uo (wP K w) c∧∀r,pP r (wP K w) (c+1)=pP r (wP K w) c:=by
 refine⟨by rw[sE,okW,h];simp[e],by rw[uo,rV h,if_pos e];simp,fun r=>by rw[pP,rV h,if_pos e];simp⟩
theorem u9{w:List Int}{c:Nat}(h:w[c]?=some b) (e:¬b=(K.after.length:Int)) (hb:0≤b):sE K w (c+1)=(sE K w c&&(kU K c b.toNat&&decide (bS (fun y=>decide (y=b)) w 0=(c:Int))))∧uo (wP K w) (c+1)=uo (wP K w) c+1∧∀r,pP r (wP K w) (c+1)=pP r (wP K w) c+bif !r.c c b.toNat then 1 else 0:=by
 refine⟨by rw[sE,okW,h];simp[e],by rw[uo,rV h,if_neg e,if_pos (by omega)],fun r=>?_⟩
 rw[pP,rV h,if_neg e,show b+1-1=b by omega,show decide (b+1>0)=true from decide_eq_true (by omega),Bool.true_and]
def aW(K:aE)(T:List aj):List aj:=T.filter (bV K.gone K.new K.af)
theorem DY{T:List aj}{x:aj}:aW K (T++[x])=aW K T++bif bV K.gone K.new K.af x then [x] else []:=by
 rw[aW,List.filter_append,aW]
 cases h:bV K.gone K.new K.af x<;>simp[h]
theorem ahd{T:List aj}:(aW K T).length≤T.length:=List.length_filter_le _ _
def QO(K:aE)(c:Nat):Int:=if c=K.after.length then 0 else (c:Int)+1
def tmC(T:List aj)(v:Int)(a:Nat):Int:=((T.filter fun x=>decide (pI x a=v)).length:Int)
def kp(K:aE)(T:List aj)(a:Nat):List Int:=(List.range (K.after.length+1)).map fun c=>tmC T (QO K c) a
def tG(K:aE)(T:List aj)(x:aj)(k:Nat):List (List Int):=(List.range K.before.length).map fun a=>if a <k then kp K (T++[x]) a else kp K T a
def sW(K:aE)(T:List aj):List (List Int):=(List.range K.before.length).map (kp K T)
theorem QP{T:List aj}{x:aj}{v:Int}{a:Nat}:tmC (T++[x]) v a=tmC T v a+if pI x a=v then 1 else 0:=by
 rw[tmC,List.filter_append,List.length_append,tmC]
 by_cases h:pI x a=v<;>simp[h]
theorem am6{b c:Nat}(hb:b≤K.after.length)(hc:c≤K.after.length)(h:QO K b=QO K c):b=c:=by
 unfold QO at h
 split at h<;>split at h<;>omega
theorem UZ{T:List aj}{x:aj}{b:Nat}{y:Int}(hb:b≤K.after.length)(hx:pI x k=QO K b)(hy:(kp K T k)[b]?=some y):(kp K T k).set b (y+1)=kp K (T++[x]) k:=by
 have hy2:y=tmC T (QO K b) k:=kN (f:=fun c=>tmC T (QO K c) k) hy
 refine List.ext_getElem? fun c=>?_
 by_cases hc:c=b
 ·subst hc
  rw[List.getElem?_set_self (by simp[kp];omega)]
  simp only[kp,List.getElem?_map,List.getElem?_range (show c <K.after.length+1 by omega),Option.map_some,QP,hx,if_true,hy2]
 rw[List.getElem?_set_ne (by omega)]
 simp only[kp,List.getElem?_map]
 by_cases h2:c <K.after.length+1
 ·rw[List.getElem?_range h2,Option.map_some,Option.map_some,QP,hx,if_neg fun e=>hc (am6 hb (by omega) e).symm]
  simp
 rw[List.getElem?_eq_none (by simp;omega)];rfl
theorem U0{T:List aj}{x:aj}:tG K T x 0=sW K T:=by simp[tG,sW]
theorem abj{T:List aj}{x:aj}:tG K T x K.before.length=sW K (T++[x]):=by
 rw[tG,sW]
 refine List.map_congr_left fun a ha=>?_
 rw[if_pos (List.mem_range.1 ha)]
theorem aeN{T:List aj}{x:aj}{r:List Int}(h:(tG K T x k)[k]?=some r):r=kp K T k:=by
 rw[kN h,if_neg (Nat.lt_irrefl _)]
theorem U1{T:List aj}{x:aj}{b:Nat}{y:Int}(hk:k <K.before.length)(hb:b≤K.after.length)(hx:pI x k=QO K b)(hy:(kp K T k)[b]?=some y):(tG K T x k).set k ((kp K T k).set b (y+1))=tG K T x (k+1):=by
 rw[UZ hb hx hy]
 refine List.ext_getElem? fun c=>?_
 by_cases hc:c=k
 ·subst hc
  rw[List.getElem?_set_self (by simp[tG];omega)]
  simp only[tG,List.getElem?_map,List.getElem?_range hk,Option.map_some,if_pos (Nat.lt_succ_self c)]
 rw[List.getElem?_set_ne (by omega)]
 simp only[tG,List.getElem?_map]
 by_cases h2:c <K.before.length
 ·rw[List.getElem?_range h2,Option.map_some,Option.map_some]
  by_cases h3:c <k
  ·rw[if_pos h3,if_pos (by omega)]
  rw[if_neg h3,if_neg (by omega)]
 rw[List.getElem?_eq_none (by simp;omega)];rfl
theorem UY:sW K []=List.replicate K.before.length (List.replicate (K.after.length+1) 0):=by
 have e:∀a,kp K [] a=List.replicate (K.after.length+1) 0:=fun a=>by
  refine List.ext_getElem? fun c=>?_
  simp only[kp,List.getElem?_map,List.getElem?_replicate]
  by_cases h:c <K.after.length+1
  ·rw[List.getElem?_range h,if_pos h];rfl
  rw[List.getElem?_eq_none (by simp;omega),if_neg h];rfl
 refine List.ext_getElem? fun a=>?_
 simp only[sW,List.getElem?_map,List.getElem?_replicate]
 by_cases h:a <K.before.length
 ·rw[List.getElem?_range h,if_pos h,Option.map_some,e]
 rw[List.getElem?_eq_none (by simp;omega),if_neg h];rfl
theorem afq{n:Nat}{x:α}:List.replicate n x++[x]=List.replicate (n+1) x:=List.replicate_succ'.symm
theorem Qz(h:K.facts.length≤4)(hb:K.before.length≤4)(hf:∀x∈K.facts,(0≤x.a∧x.a <K.before.length)∧(0≤x.b∧x.b <K.after.length)){r:bx}(hW:∀w∈W,pY K w):∀x∈Bm K r i W,0≤nC x:=fun x hx=>by
 obtain⟨w,hw,rfl⟩:=List.mem_map.1 hx
 obtain⟨h1,h2⟩:=List.mem_filter.1 hw
 exact(aoj h hb ((EK h hb hf (hW w h1)).1 h2) r i).2
theorem Jw(h:K.facts.length≤4)(hb:K.before.length≤4)(hf:∀x∈K.facts,(0≤x.a∧x.a <K.before.length)∧(0≤x.b∧x.b <K.after.length)){rows:List bx}:∀n,∀x∈bZ K rows n,0≤nC x
 |0,x,hx=>by cases hx
 |n+1,x,hx=>by
  rcases List.mem_append.1 hx with hx|hx
  ·exact Jw h hb hf n x hx
  exact Qz h hb hf (fun w hw=>uF.1 hw) x hx
theorem Li{r:bx}:(Bm K r i W).length≤W.length:=by
 rw[Bm,List.length_map];exact List.length_filter_le _ _
theorem Nv(hb:K.before.length≤4)(ha:K.after.length≤4){rows:List bx}:∀n,(bZ K rows n).length≤n*625
 |0=>Nat.zero_le _
 |n+1=>by
  have h1:=Nv hb ha (rows:=rows) n
  have h2:=Li (K:=K) (r:=rowAt rows n) (i:=n) (W:=nT (K.after.length+1) K.before.length)
  have h3:=NL (n:=K.after.length+1) (k:=K.before.length) (by omega) hb
  rw[bZ,List.length_append];omega
theorem Ng{p:α→Bool}:∀(l:List α) (k:Nat),decide (bS p l k≥0)=l.any p
 | [],k=>rfl
 |x::l,k=>by
  have ih:=Ng (p:=p) l (k+1)
  simp only[bS,List.any_cons]
  rcases Bool.eq_false_or_eq_true (p x) with h|h
  ·simp only[h,cond_true,Bool.true_or];exact decide_eq_true (by omega)
  simp only[h,cond_false,Bool.false_or];exact ih
theorem afV{S:List (List ar)}{ways:List (List aO)}{w:List Int}:(pO S ways w x).length≤1:=by
 unfold pO
 split
 ·split<;>simp
 simp
def Hd(PL:List ak)(s n:Int)(d:Nat):Bool:=(PL.take d).any fun q=>q.h==s&&(q.n==n&&(q.l==0&&true)&&true)
theorem LQ{PL:List ak}{s:Int}{d:Nat}{q:ak}(h:PL[d]?=some q):Hd PL s n (d+1)=(Hd PL s n d||(q.h==s&&(q.n==n&&(q.l==0&&true)&&true))):=by
 rw[Hd,cG h,List.any_append,Hd];simp
theorem Q5{w:List Int}{c b:Nat}{d:Nat}(hw:(WW K)[i]?=some w) (hx:K.before[c]?=some x) (hy:K.after[b]?=some y) (hd:¬d <(pO K.str K.ways w x).length):(rowAt (ax K) i).c c b=Hd (pO K.str K.ways w x) y.st y.no d:=by
 have e:rowAt (ax K) i=lG K (pO K.str K.ways) w:=by simp only[rowAt,ax,List.getElem?_map,hw,Option.map_some,Option.getD_some]
 rw[e]
 simp only[lG,hx,hy]
 rw[Hd,List.take_of_length_le (by omega),Ng]
 congr 1
 funext q
 rw[Bool.eq_iff_iff]
 simp only[oO,Bool.and_eq_true,beq_iff_eq,and_true]
 exact⟨fun h=>⟨h.1.symm,h.2.1.symm,h.2.2.symm⟩,fun h=>⟨h.1.symm,h.2.1.symm,h.2.2.symm⟩⟩
theorem aov{g m:Int}{x:aj}(h:x.gone>g∨x.new>n∨x.af>m):bV g n m x=false:=by
 rw[bV,Bool.and_eq_false_iff,Bool.and_eq_false_iff,decide_eq_false_iff_not,decide_eq_false_iff_not,decide_eq_false_iff_not];omega
theorem ahe{g m:Int}{x:aj}(h:x.gone≤g∧x.new≤n∧x.af≤m):bV g n m x=true:=by
 rw[bV,Bool.and_eq_true,Bool.and_eq_true,decide_eq_true_eq,decide_eq_true_eq,decide_eq_true_eq];exact h
theorem ank{w:List Int}{x:eY}(h:x.same=false):EY w x=true:=by rw[EY,h];rfl
theorem afg{w:List Int}{x:eY}{v:Int}(h:x.same=true)(hv:w[x.a.toNat]?=some v):EY w x=decide (v=x.b):=by
 rw[EY,h,hv,Bool.not_true,Bool.false_or];simp
theorem aEN{w:List Int}{r:bx}(hw:pY K w)(hb:w[k]?=some b) (hk:k <4):pI (bI K r i (wP K w)) k=QO K b.toNat:=by
 rw[sq hk,rV hb,QO]
 have:=hw.2 b (zL hb)
 split<;>split<;>omega
theorem anj{al lw:Int}{a b c d:Value}(h1:single a=true)(h2:single b=true)(h3:single c=true)(h4:single d=true):([zI al,a,b,c,d,zI lw]:List Value).all single=true:=by
 simp[h1,h2,h3,h4];exact⟨rfl,rfl⟩
theorem dR{T:List aj}{x:aj}{y:Int}{L:Cells}{v:Value}{f:aj→Int}(h:aA v 1 3 aS ((aW K T).map f++[y]) L)(hk:bV K.gone K.new K.af x=true)(hx:f x=y):aA v 1 3 aS ((aW K (T++[x])).map f) L:=by
 rw[DY,hk,cond_true,List.map_append,List.map_cons,List.map_nil,hx];exact h
set_option maxHeartbeats 2000000 in
theorem amN (hK:fO ro l K) (hC:kg K) (hV:fq K):ee zT 15 [.agg ⟨l⟩] ro [] (fun r Y=>∃(vt vg vn vo:Value) (al lw:Int),r= .tuple ⟨[.agg ⟨[zI al,vt,vg,vn,vo,zI lw]⟩,.bool true]⟩∧([zI al,vt,vg,vn,vo,zI lw]:List Value).all single=true∧al=((aW K (bZ K (ax K) (ax K).length)).length:Int)∧lw=iL (bZ K (ax K) (ax K).length)∧∀aF,Knows aF Y→LL aF vt (sW K (aW K (bZ K (ax K) (ax K).length)))∧bJ aF vg 1 aS ((aW K (bZ K (ax K) (ax K).length)).map fun x=>x.gone)∧bJ aF vn 1 aS ((aW K (bZ K (ax K) (ax K).length)).map fun x=>x.new)∧bJ aF vo 1 aS ((aW K (bZ K (ax K) (ax K).length)).map fun x=>x.af)):=by
 obtain⟨vS,vT,vc,vh,vr,vb,va,vf,fa,fc,hv,rfl,hSS,hST,py,kz,hr,yY,B6,Eg⟩:=id hK
 obtain⟨hc,hh,dk⟩:=id py
 obtain⟨dF,Ak,Aj,dB,rfl,CQ,yP,yO⟩:=hc
 obtain⟨di,uQ,uP,cP,rfl,wF,pM,pK⟩:=hh
 obtain⟨iI,Gu,Gt,iH,rfl,JI,FL,FK⟩:=hr
 obtain⟨fC,Dv,Dt,eO,rfl,Du,wu,wq⟩:=yY
 obtain⟨fD,Dy,Dw,eQ,rfl,Dx,wy,wx⟩:=B6
 obtain⟨fS,Kp,Km,fe,rfl,Ko,wW,wV⟩:=Eg
 have MS:=hV.rules.1
 have yV:=hV.before.1
 have Ec:=hV.after.1
 have hnf:=hV.facts.1
 have CY:=hC.facts.2
 refine zE<|zD 2<|jn fun b1=>jn fun b2=>zD 5<|jn fun b4=>jd 8 [0]<|my<|my<|dH [1,1,0,1,0,0] [] (fun(zz:Nat×Value×Cells×(List Value)×Cells)=>[(1,zP b1),(2,zP b2),(3,.bool false),(4,zP b4),(5,zI (zz.1:Int))]) (fun zz=>[.b b4 (.cells ⟨[zI 0,zz.2.1,zS,zS,zS,zI (-1)]⟩ 55 (0,0)),.l zz.2.2.1,.l zz.2.2.2.2,.b b2 (.cells ⟨[zI 0,zS,zS,zS,zS,zI 0]⟩ 55 (0,0)),.b b1 (.cells ⟨[vS,vT,.slice fa 0 fc,.slice dF K.cs.length dB,.slice di hv.length cP,.slice iI K.rules.length iH,.slice fC K.before.length eO,.slice fD K.after.length eQ,zI K.gone,zI K.new,zI K.af,.slice fS K.facts.length fe]⟩ 38 (0,0))]) (fun zz=>zz.1≤K.before.length∧aA zz.2.1 1 22 gL zz.2.2.2.1 zz.2.2.1∧iE zz.2.2.2.1 (List.replicate zz.1 (List.replicate (K.after.length+1) 0)) zz.2.2.2.2) (fun zz=>K.before.length-zz.1) (⟨0,zS,[],[],[]⟩) ⟨Nat.zero_le _,aA.nil _ _ _,iE.nil⟩ [2,1,0,3,4] ?_
 rintro⟨u,vX,LX,Xv,ZX⟩ hA K1 bP rest
 dsimp only at hA
 have hXl:=hA.2.2.len
 rw[List.length_replicate] at hXl
 refine jd 9 [4]<|zJ 33 ((u:Int) <(K.before.length:Int)) (fun h1=>?_) fun h1=>?_
 ·
  refine jd 10 [0,4]<|zW ((K.after.length:Int)+1)<|aP 6 fun zw Ab yZ=>aFS (E:=3) (z:= zI 0) aS (0:Int) ((K.after.length:Int)+1) rfl (by omega) fun v42 L42 asn=>dW yZ (zN 1 5)<|aP 7 (fun tA tH q5=>?_)
  obtain⟨va4,vc4,he4⟩:=asn.form
  subst he4
  refine jn fun b43=>dW q5 (zN 1 6)<|aP 8 fun sR sX qZ=>cH gL b43 ((.slice va4 ((List.replicate ((K.after.length:Int)+1).toNat (0:Int))).length vc4):Value) 3 0 hA.2.1 rfl rfl (by omega) fun aPE aPh L44 axm=>eW qZ [[6]]<|zD 1<|aP 10 fun Bg Br B7=>jd 1 [3]<|eB B7<|zD 3<|zW ((u:Int)+1)<|zD 2<|zV bP (⟨u+1,(.slice aPE ((Xv++[((.slice va4 ((List.replicate ((K.after.length:Int)+1).toNat (0:Int))).length vc4):Value)])).length aPh),L44,(Xv++[((.slice va4 ((List.replicate ((K.after.length:Int)+1).toNat (0:Int))).length vc4):Value)]),ZX++L42⟩) ⟨by dsimp only;omega,axm,by dsimp only;have h:=hA.2.2.snoc asn;rw[show ((K.after.length:Int)+1).toNat=K.after.length+1 by omega] at h ⊢;rwa[afq] at h⟩ [[3],[0],[4,2],[5],[6]]
 refine jd 6 [4]<|jc (vs:=[.agg ⟨[vS,vT,.slice fa 0 fc]⟩]) [] (QJ hK hC _ (Sub.refl _)) ?_
 rintro _ Y49 ⟨wa,wn,wc,rfl,hwn,aXl⟩
 refine zD 5<|jf [0] Y49 (fun ro9 px hk8=>?_)
 obtain⟨Ps,htW,haW⟩:=aXl _ hk8
 obtain⟨qWa,qWb,qWo,qWc,hWe,qWk,qWh,qWl⟩:=htW
 simp only[Value.slice.injEq] at hWe
 obtain⟨rfl,rfl,rfl⟩:=hWe
 have hWl:=haW.len
 have hW2:=(UO hC).n
 refine zD 12<|zJ 58 ((Ps.length:Int)>4) (fun Bb=>?_) fun Bb=>?_
 ·
  exfalso;omega
 refine jd 7 [4]<|zW ((K.after.length:Int)+1)<|jd 3 [4]<|jc (vs:=[zI ((K.after.length:Int)+1),zI (K.before.length:Int)]) [] (aCv K.before.length _ (K.after.length+1) _ _ (by omega) rfl (by omega)) ?_
 rintro v67 Y67 ajl
 refine zD 1<|jf [0] Y67 (fun aDo tY acD=>?_)
 obtain⟨Qk,htD,haD⟩:=ajl _ acD
 obtain⟨wU,aDx,aDv,wo,rfl,aDw,au1,au0⟩:=htD
 have hDl:=haD.len
 have hDn:=NL (n:=K.after.length+1) (k:=K.before.length) (by omega) (by omega)
 refine jd 6 [4]<|aFS (E:=127) (z:= zS) gL (zS:Value) (K.before.length:Int) rfl (by omega) fun v71 L71 aG4=>zD 8<|my<|dH [1,1,1,1,1,1,1,0,1,0,0] [] (fun(zz:Nat×Value×Cells×(List Value)×Cells)=>[(1,zP b1),(2,zP b2),(3,.bool false),(4,zP b4),(6,.slice wa Ps.length wc),(8,.slice wU Qk.length wo),(9,zz.2.1),(10,zI (zz.1:Int))]) (fun zz=>[.l zz.2.2.1,.l zz.2.2.2.2,.b b4 (.cells ⟨[zI 0,vX,zS,zS,zS,zI (-1)]⟩ 55 (0,0)),.l LX,.l ZX,.b b2 (.cells ⟨[zI 0,zS,zS,zS,zS,zI 0]⟩ 55 (0,0)),.b b1 (.cells ⟨[vS,vT,.slice fa 0 fc,.slice dF K.cs.length dB,.slice di hv.length cP,.slice iI K.rules.length iH,.slice fC K.before.length eO,.slice fD K.after.length eQ,zI K.gone,zI K.new,zI K.af,.slice fS K.facts.length fe]⟩ 38 (0,0))]) (fun zz=>zz.1≤K.before.length∧aA zz.2.1 1 127 gL (zz.2.2.2.1++List.replicate (K.before.length-zz.1) (Value.slice none 0 0)) zz.2.2.1∧zz.2.2.2.1.length=zz.1∧∀aF,Knows aF zz.2.2.2.2→dc (fun v l=>bJ aF v 1 akQ l) zz.2.2.2.1 ((List.range zz.1).map fun a9=>(List.range K.after.length).map (kU K a9))) (fun zz=>K.before.length-zz.1) (⟨0,v71,L71,[],[]⟩) ⟨Nat.zero_le _,by simpa using aG4,rfl,fun _ _=> .nil⟩ [1,0,2,3,4,5,6] ?_
 rintro⟨a,vF,LF,Pt,ZF⟩ hB K6 hK6 rest
 dsimp only at hB
 refine jd 9 [6]<|zJ 76 ((a:Int) <(K.before.length:Int)) (fun IE=>?_) fun IE=>?_
 ·
  refine zD 9<|my<|dH [1,1,1,1,1,1,1,0,1,0,0,1,0,0,1,0,0] [K6] (fun(zz:Nat×Value×Cells×Value×Cells)=>[(1,zP b1),(2,zP b2),(3,.bool false),(4,zP b4),(6,.slice wa Ps.length wc),(8,.slice wU Qk.length wo),(9,zz.2.1),(10,zI (a:Int)),(11,zI (zz.1:Int))]) (fun zz=>[.l zz.2.2.1,.l zz.2.2.2.2,.l ZF,.b b4 (.cells ⟨[zI 0,vX,zS,zS,zS,zI (-1)]⟩ 55 (0,0)),.l LX,.l ZX,.b b2 (.cells ⟨[zI 0,zS,zS,zS,zS,zI 0]⟩ 55 (0,0)),.b b1 (.cells ⟨[vS,vT,.slice fa 0 fc,.slice dF K.cs.length dB,.slice di hv.length cP,.slice iI K.rules.length iH,.slice fC K.before.length eO,.slice fD K.after.length eQ,zI K.gone,zI K.new,zI K.af,.slice fS K.facts.length fe]⟩ 38 (0,0))]) (fun zz=>zz.1≤K.after.length∧aA zz.2.1 1 127 gL (Pt++zz.2.2.2.1::List.replicate (K.before.length-a-1) (Value.slice none 0 0)) zz.2.2.1∧aA zz.2.2.2.1 1 4 akQ ((List.range zz.1).map (kU K a)) zz.2.2.2.2) (fun zz=>K.after.length-zz.1) (⟨0,vF,LF,zS,[]⟩) ⟨Nat.zero_le _,by dsimp only;rw[←anr (by omega)];exact hB.2.1,aA.nil _ _ _⟩ [1,0,2,3,4,5,6,7] ?_
  rintro⟨b,vF,LF,vO,LO⟩ hQ K7 hK7 rest
  dsimp only at hQ
  refine jd 9 [7]<|zJ 83 ((b:Int) <(K.after.length:Int)) (fun xz=>?_) fun xz=>?_
  ·
   refine zD 4 ?_
   obtain⟨xa,hxa⟩:∃x,K.before[a]?=some x:=⟨_,List.getElem?_eq_getElem (by omega)⟩
   obtain⟨yb,hyb⟩:∃y,K.after[b]?=some y:=⟨_,List.getElem?_eq_getElem (by omega)⟩
   refine zD 5 ?_
   obtain⟨x90,H5⟩:=zG ((Pt++vO::List.replicate (K.before.length-a-1) (Value.slice none 0 0))) a (by simp only[List.length_append,List.length_cons,List.length_replicate];omega)
   refine Un 1 hQ.2.1 H5 fun b90 aWI=>n7 0 [0] LF (fun s _ hZ=>cB hQ.2.1 aWI hZ H5) ?_
   obtain rfl:vO=x90:=avE H5 hB.2.2.1
   refine jd 3 [7]<|jp (vs:=[.agg ⟨[vS,vT,.slice fa 0 fc,.slice dF K.cs.length dB,.slice di hv.length cP,.slice iI K.rules.length iH,.slice fC K.before.length eO,.slice fD K.after.length eQ,zI K.gone,zI K.new,zI K.af,.slice fS K.facts.length fe]⟩,zI (a:Int),zI (b:Int)]) [] [] (fun aJ hs hZ=>aBS ((hK.up (px.trans tY)).up hs) hV hxa hyb)<|aP 10 fun UF U3 W6=>jn fun b96=>dW W6 (zN 1 8)<|aP 11 fun UE U2 O5=>cH akQ b96 (kU K a b) 2 0 hQ.2.2 rfl rfl (by simp only[List.length_map,List.length_range];omega) (fun atV atI L97 axe=>?_)
   refine eW O5 [[8]] ?_
   obtain⟨x98,aF4⟩:=zG ((Pt++vO::List.replicate (K.before.length-a-1) (Value.slice none 0 0))) a (by simp only[List.length_append,List.length_cons,List.length_replicate];omega)
   refine Un 1 hQ.2.1 aF4 fun b98 aWH=>aP 13 fun GW G9 xv=>Qc 2 0 [(.slice atV ((((List.range b).map (kU K a))++[(kU K a b)])).length atI)] ((.slice atV ((((List.range b).map (kU K a))++[(kU K a b)])).length atI):Value) hQ.2.1 aWH aF4 rfl rfl (Nat.le_of_ble_eq_true rfl) fun L19 axz=>eB xv<|zD 3<|zW ((b:Int)+1)<|zD 2<|zF hK7 (⟨b+1,vF,L19,(.slice atV ((((List.range b).map (kU K a))++[(kU K a b)])).length atI),L97⟩) ⟨by dsimp only;have h:=axz;rwa[aod hB.2.2.1] at h,by dsimp only;rw[Hp];exact axe⟩ [0,1,3,4,5,6,7,8]
  refine zD 4<|zW ((a:Int)+1)<|zD 2<|zV hK6 (⟨a+1,vF,LF,Pt++[vO],ZF++LO⟩) ⟨by dsimp only;omega,by dsimp only;rw[List.append_assoc,List.singleton_append,Nat.sub_add_eq];exact hQ.2.1,by simp[hB.2.2.1],fun aF hk=>by dsimp only;rw[Hp];exact(hB.2.2.2 aF hk.left).snoc (by have h:=hQ.2.2.jR hk.right;rwa[show b=K.after.length by omega] at h)⟩ [[0],[2,1],[3],[4],[5],[6],[7]]
 refine zD 5<|jf [0,1] (LF++ZF) (fun bgS BX aHx=>?_)
 have htF:=hB.2.1.jR (Knows.left aHx)
 rw[show K.before.length-a=0 by omega,List.replicate_zero,List.append_nil] at htF
 obtain⟨FH,bhh,bhf,Ds,rfl,bhg,aRt,aRs⟩:=htF
 have haF:=hB.2.2.2 _ (Knows.right aHx)
 have hFl:=haF.len
 refine zD 3<|my<|my<|my<|dH [1,1,1,1,1,1,1,1,0,1,0,0] [] (fun(zz:Nat×(List aj)×Int×Int×Value×Cells×Value×Cells×Value×Cells×Cells)=>[(1,zP b1),(2,zP b2),(4,zP b4),(6,.slice wa Ps.length wc),(8,.slice wU Qk.length wo),(9,.slice FH Pt.length Ds),(12,zI (zz.1:Int))]) (fun zz=>[.b b4 (.cells ⟨[zI zz.2.2.1,vX,zz.2.2.2.2.1,zz.2.2.2.2.2.2.1,zz.2.2.2.2.2.2.2.2.1,zI zz.2.2.2.1]⟩ 55 (0,0)),.l zz.2.2.2.2.2.1,.l zz.2.2.2.2.2.2.2.1,.l zz.2.2.2.2.2.2.2.2.2.1,.l zz.2.2.2.2.2.2.2.2.2.2,.l LX,.b b2 (.cells ⟨[zI 0,zS,zS,zS,zS,zI 0]⟩ 55 (0,0)),.b b1 (.cells ⟨[vS,vT,.slice fa 0 fc,.slice dF K.cs.length dB,.slice di hv.length cP,.slice iI K.rules.length iH,.slice fC K.before.length eO,.slice fD K.after.length eQ,zI K.gone,zI K.new,zI K.af,.slice fS K.facts.length fe]⟩ 38 (0,0))]) (fun zz=>(zz.1≤Ps.length∧zz.2.1=(bZ K (ax K) zz.1))∧(zz.2.2.1=((aW K zz.2.1).length:Int)∧zz.2.2.2.1=iL zz.2.1)∧(aA zz.2.2.2.2.1 1 3 aS ((aW K zz.2.1).map fun x=>x.gone) zz.2.2.2.2.2.1∧aA zz.2.2.2.2.2.2.1 1 3 aS ((aW K zz.2.1).map fun x=>x.new) zz.2.2.2.2.2.2.2.1∧aA zz.2.2.2.2.2.2.2.2.1 1 3 aS ((aW K zz.2.1).map fun x=>x.af) zz.2.2.2.2.2.2.2.2.2.1)∧iE Xv (sW K (aW K zz.2.1)) zz.2.2.2.2.2.2.2.2.2.2) (fun zz=>Ps.length-zz.1) (⟨0,[],0,(-1),zS,[],zS,[],zS,[],ZX⟩) ⟨⟨Nat.zero_le _,rfl⟩,⟨rfl,by simp[iL]⟩,⟨aA.nil _ _ _,aA.nil _ _ _,aA.nil _ _ _⟩,by dsimp only;rw[show aW K []=[] from rfl,UY,←show u=K.before.length by omega];exact hA.2.2⟩ [3,2,1,0,5,4,6,7] ?_
 rintro⟨i,T,al,lw,vG,LG,vN,LN,vM,LM,Z⟩ hD K11 apK rest
 dsimp only at hD
 refine zD 8<|zJ 102 ((i:Int) <(Ps.length:Int)) (fun Qi=>?_) fun Qi=>?_
 ·
  refine jd 9 [7] ?_
  obtain⟨aee,zh⟩:=zG Ps i
  refine fK wc 1 qWh zh ?_
  obtain⟨Ku,aiG,aYJ⟩:=haW.get zh
  obtain aHc:=zL aiG
  obtain⟨arH,aEK,aEG,arG,rfl,aEI,aEJ,aEH⟩:=aYJ
  refine jl 0 ((qWl _ _ zh).ext (gD (tY.trans BX)))<|aP 5 fun Le Lu AO=>jc (vs:=[.agg ⟨[vS,vT,.slice fa 0 fc,.slice dF K.cs.length dB,.slice di hv.length cP,.slice iI K.rules.length iH,.slice fC K.before.length eO,.slice fD K.after.length eQ,zI K.gone,zI K.new,zI K.af,.slice fS K.facts.length fe]⟩,.slice arH Ku.length arG]) [] (atD (hK.up ((px.trans tY).trans BX)) hC (((show bJ _ _ _ _ _ from ⟨arH,aEK,aEG,arG,rfl,aEI,aEJ,aEH⟩).up tY).up BX) aHc) ?_
  rintro bgw aZ1 aIt
  refine dW AO (zN 1 8)<|zD 5<|jf [0] aZ1 (fun bgQ D7 aVF=>?_)
  obtain⟨esP,htP,haP⟩:=aIt _ aVF
  obtain⟨Hr,bhe,bhc,Dr,rfl,bhd,aDu,aDt⟩:=htP
  have hPl:=haP.len
  rw[List.length_map] at hPl
  refine jd 7 [7]<|js 116 (!decide ((esP.length:Int)=(K.before.length:Int))) (fun h29=>?_) (fun h29=>?_)
  ·
   replace h29:=of_decide_eq_false (by simpa using h29)
   exfalso;omega
  replace h29:=of_decide_eq_true (by simpa using h29)
  refine zD 7<|dH [1,1,1,1,1,1,1,1,0,1,0,0,1,0,0,1,1,1,0,0] [K11] (fun(zz:Nat×(List aj)×Int×Int×Value×Cells×Value×Cells×Value×Cells×Cells)=>[(1,zP b1),(2,zP b2),(4,zP b4),(6,.slice wa Ps.length wc),(8,.slice wU Qk.length wo),(9,.slice FH Pt.length Ds),(12,zI (i:Int)),(13,.slice Hr esP.length Dr),(14,zI (zz.1:Int))]) (fun zz=>[.b b4 (.cells ⟨[zI zz.2.2.1,vX,zz.2.2.2.2.1,zz.2.2.2.2.2.2.1,zz.2.2.2.2.2.2.2.2.1,zI zz.2.2.2.1]⟩ 55 (0,0)),.l zz.2.2.2.2.2.1,.l zz.2.2.2.2.2.2.2.1,.l zz.2.2.2.2.2.2.2.2.2.1,.l zz.2.2.2.2.2.2.2.2.2.2,.l LX,.b b2 (.cells ⟨[zI 0,zS,zS,zS,zS,zI 0]⟩ 55 (0,0)),.b b1 (.cells ⟨[vS,vT,.slice fa 0 fc,.slice dF K.cs.length dB,.slice di hv.length cP,.slice iI K.rules.length iH,.slice fC K.before.length eO,.slice fD K.after.length eQ,zI K.gone,zI K.new,zI K.af,.slice fS K.facts.length fe]⟩ 38 (0,0))]) (fun zz=>(zz.1≤Qk.length∧zz.2.1=((bZ K (ax K) i)++Bm K (rowAt (ax K) i) i ((nT (K.after.length+1) K.before.length).take zz.1)))∧(zz.2.2.1=((aW K zz.2.1).length:Int)∧zz.2.2.2.1=iL zz.2.1)∧(aA zz.2.2.2.2.1 1 3 aS ((aW K zz.2.1).map fun x=>x.gone) zz.2.2.2.2.2.1∧aA zz.2.2.2.2.2.2.1 1 3 aS ((aW K zz.2.1).map fun x=>x.new) zz.2.2.2.2.2.2.2.1∧aA zz.2.2.2.2.2.2.2.2.1 1 3 aS ((aW K zz.2.1).map fun x=>x.af) zz.2.2.2.2.2.2.2.2.2.1)∧iE Xv (sW K (aW K zz.2.1)) zz.2.2.2.2.2.2.2.2.2.2) (fun zz=>Qk.length-zz.1) (⟨0,T,al,lw,vG,LG,vN,LN,vM,LM,Z⟩) ⟨⟨Nat.zero_le _,by rw[hD.1.2];simp[Bm]⟩,hD.2⟩ (zN 0 8) ?_
  rintro⟨j,T,al,lw,vG,LG,vN,LN,vM,LM,Z⟩ hE K13 KN rest
  dsimp only at hE
  refine zD 8<|zJ 121 ((j:Int) <(Qk.length:Int)) (fun Pd=>?_) fun Pd=>?_
  ·
   refine zD 8 ?_
   obtain⟨bf1,ahW⟩:=zG Qk j
   refine fK wo 1 au1 ahW ?_
   obtain⟨gT,Z3,aYH⟩:=haD.get ahW
   obtain BW:=uF.1 (zL Z3)
   obtain⟨vJ,aEC,aEA,qK,rfl,aEB,Y0,YZ⟩:=aYH
   refine jl 0 ((au0 _ _ ahW).ext (gD (BX.trans D7)))<|zD 3 ?_
   have hwl:=BW.1
   refine zD 11<|dH [1,1,1,1,1,1,1,1,0,1,0,0,1,0,0,1,1,1,0,0,1,0,0,1,1,0,1,0,0] [K11,K13] (fun(zz:Nat×Bool×Int×Int)=>[(1,zP b1),(2,zP b2),(4,zP b4),(6,.slice wa Ps.length wc),(8,.slice wU Qk.length wo),(9,.slice FH Pt.length Ds),(12,zI (i:Int)),(13,.slice Hr esP.length Dr),(14,zI (j:Int)),(15,.slice vJ gT.length qK),(16,.bool zz.2.1),(17,zI zz.2.2.1),(18,zI zz.2.2.2),(19,zI (zz.1:Int))]) (fun zz=>[.b b4 (.cells ⟨[zI al,vX,vG,vN,vM,zI lw]⟩ 55 (0,0)),.l LG,.l LN,.l LM,.l Z,.l LX,.b b2 (.cells ⟨[zI 0,zS,zS,zS,zS,zI 0]⟩ 55 (0,0)),.b b1 (.cells ⟨[vS,vT,.slice fa 0 fc,.slice dF K.cs.length dB,.slice di hv.length cP,.slice iI K.rules.length iH,.slice fC K.before.length eO,.slice fD K.after.length eQ,zI K.gone,zI K.new,zI K.af,.slice fS K.facts.length fe]⟩ 38 (0,0))]) (fun zz=>zz.1≤gT.length∧zz.2.1=sE K gT zz.1∧zz.2.2.1=uo (wP K gT) zz.1∧zz.2.2.2=pP (rowAt (ax K) i) (wP K gT) zz.1) (fun zz=>gT.length-zz.1) (⟨0,true,0,0⟩) ⟨Nat.zero_le _,rfl,rfl,rfl⟩ (zN 0 8) ?_
   rintro⟨c,f,n,m⟩ hF K14 F6 rest
   dsimp only at hF
   have hcn:=aaF (wP K gT) c
   have hmn:=Ol (rowAt (ax K) i) (wP K gT) c
   refine zD 8<|zJ 131 ((c:Int) <(gT.length:Int)) (fun Tb=>?_) fun Tb=>?_
   ·
    refine zD 8 ?_
    obtain⟨sU,tW⟩:=zG gT c
    refine fK qK 1 Y0 tW<|jl 0 ((YZ _ _ tW).ext (gD (BX.trans D7)))<|zD 4 ?_
    have bef:=BW.2 sU (zL tW)
    refine jd 7 [7]<|zJ 142 (sU=(K.after.length:Int)) (fun Ta=>?_) fun Ta=>?_
    ·
     refine zD 4<|zW ((c:Int)+1)<|zD 2<|zF F6 (⟨c+1,f,n,m⟩) ⟨by dsimp only;rw[(IQ tW (by omega)).1];exact hF.2.1,by dsimp only;rw[(IQ tW (by omega)).2.1];exact hF.2.2.1,by dsimp only;rw[(IQ tW (by omega)).2.2];exact hF.2.2.2⟩ [0,1,2,3,4,5,6,7]
    refine zD 5<|zW (n+1)<|zD 3<|GD [1,1,1,1,1,1,1,1,0,1,0,0,1,0,0,1,1,1,0,0,1,0,0,1,1,0,1,0,0,1,0,0,1,1,1,1] [K11,K13,K14] (fun(zz:Bool)=>[(1,zP b1),(2,zP b2),(4,zP b4),(6,.slice wa Ps.length wc),(8,.slice wU Qk.length wo),(9,.slice FH Pt.length Ds),(12,zI (i:Int)),(13,.slice Hr esP.length Dr),(14,zI (j:Int)),(15,.slice vJ gT.length qK),(16,.bool zz),(17,zI (n+1)),(18,zI m),(19,zI (c:Int)),(20,zI sU)]) (fun zz=>[.b b4 (.cells ⟨[zI al,vX,vG,vN,vM,zI lw]⟩ 55 (0,0)),.l LG,.l LN,.l LM,.l Z,.l LX,.b b2 (.cells ⟨[zI 0,zS,zS,zS,zS,zI 0]⟩ 55 (0,0)),.b b1 (.cells ⟨[vS,vT,.slice fa 0 fc,.slice dF K.cs.length dB,.slice di hv.length cP,.slice iI K.rules.length iH,.slice fC K.before.length eO,.slice fD K.after.length eQ,zI K.gone,zI K.new,zI K.af,.slice fS K.facts.length fe]⟩ 38 (0,0))]) (fun zz=>zz=sE K gT (c+1)) ?_ (fun K15 acL=>?_)
    ·
     rintro f1 hf1 rest
     refine zD 1 ?_
     obtain⟨xc,hxc⟩:∃x,K.before[c]?=some x:=⟨_,List.getElem?_eq_getElem (by omega)⟩
     obtain⟨yb2,awy⟩:∃y,K.after[sU.toNat]?=some y:=⟨_,List.getElem?_eq_getElem (by omega)⟩
     refine zD 9<|dH [1,1,1,1,1,1,1,1,0,1,0,0,1,0,0,1,1,1,0,0,1,0,0,1,1,0,1,0,0,1,0,0,1,1,1,1,1,0,1,0,0] [K11,K13,K14] (fun(zz:Nat×Bool)=>[(1,zP b1),(2,zP b2),(4,zP b4),(6,.slice wa Ps.length wc),(8,.slice wU Qk.length wo),(9,.slice FH Pt.length Ds),(12,zI (i:Int)),(13,.slice Hr esP.length Dr),(14,zI (j:Int)),(15,.slice vJ gT.length qK),(16,.bool f1),(17,zI (n+1)),(18,zI m),(19,zI (c:Int)),(20,zI sU),(21,.bool zz.2),(22,zI (zz.1:Int))]) (fun zz=>[.b b4 (.cells ⟨[zI al,vX,vG,vN,vM,zI lw]⟩ 55 (0,0)),.l LG,.l LN,.l LM,.l Z,.l LX,.b b2 (.cells ⟨[zI 0,zS,zS,zS,zS,zI 0]⟩ 55 (0,0)),.b b1 (.cells ⟨[vS,vT,.slice fa 0 fc,.slice dF K.cs.length dB,.slice di hv.length cP,.slice iI K.rules.length iH,.slice fC K.before.length eO,.slice fD K.after.length eQ,zI K.gone,zI K.new,zI K.af,.slice fS K.facts.length fe]⟩ 38 (0,0))]) (fun zz=>zz.1≤(pO K.str K.ways Ku xc).length∧zz.2=Hd (pO K.str K.ways Ku xc) yb2.st yb2.no zz.1) (fun zz=>(pO K.str K.ways Ku xc).length-zz.1) (⟨0,false⟩) ⟨Nat.zero_le _,rfl⟩ (zN 0 8) ?_
     rintro⟨d,s⟩ hG K16 apJ rest
     dsimp only at hG
     have blb:=afV (S:=K.str) (ways:=K.ways) (w:=Ku) (x:=xc)
     refine zD 6 ?_
     obtain⟨bfX,ahQ⟩:=zG esP c
     refine fK Dr 1 aDu ahQ ?_
     obtain⟨avW,aHq,aYF⟩:=haP.get ahQ
     obtain ai0:=(sa aHq (by rw[List.getElem?_map,hxc];rfl):avW=pO K.str K.ways Ku xc)
     obtain aMQ:avW.length=(pO K.str K.ways Ku xc).length:=by rw[ai0]
     obtain⟨bcx,bcw,bcr,bcv,rfl,bct,bcu,bcs⟩:=aYF
     refine jl 0 (aDt _ _ ahQ)<|zD 3<|zJ 168 ((d:Int) <(avW.length:Int)) (fun h33=>?_) fun h33=>?_
     ·
      refine zD 4 ?_
      obtain⟨qd,hqd⟩:∃q,(pO K.str K.ways Ku xc)[d]?=some q:=⟨_,List.getElem?_eq_getElem (by omega)⟩
      refine zD 3<|js 1 s (fun h34=>?_) (fun h34=>?_)
      ·
       refine zD 26<|zW ((d:Int)+1)<|zD 2<|zF apJ (⟨d+1,true⟩) (by dsimp only;rw[LQ hqd,←hG.2,show s=true by assumption];rfl) [0,1,2,3,4,5,6,7]
      refine zD 2 ?_
      obtain⟨bfW,ZQ⟩:=zG esP c
      refine fK Dr 1 aDu ZQ ?_
      obtain⟨avV,aHp,aYE⟩:=haP.get ZQ
      obtain asw:=(sa aHp (by rw[List.getElem?_map,hxc];rfl):avV=pO K.str K.ways Ku xc)
      obtain aMP:avV.length=(pO K.str K.ways Ku xc).length:=by rw[asw]
      obtain⟨bcq,bcp,bcn,aEs,rfl,bco,aEr,aEq⟩:=aYE
      refine jl 0 (aDt _ _ ZQ)<|zD 1 ?_
      obtain⟨UH,ahO⟩:=zG avV d
      refine fK aEs 3 aEr ahO<|jl 0 (aEq _ _ ahO)<|jd 3 [7] ?_
      obtain⟨aec,ZP⟩:=zG K.after (sU.toNat)
      refine CU sU eQ 5 wy ZP (Int.toNat_of_nonneg (show 0≤sU∧sU <((K.after).length:Int) from (by omega)).1).symm<|zD 1<|jl 1 ((wx _ _ ZP).ext (gD (((px.trans tY).trans BX).trans D7)))<|jd 3 [7] ?_
      obtain⟨amJ,ahN⟩:=zG K.after (sU.toNat)
      refine CU sU eQ 5 wy ahN (Int.toNat_of_nonneg (show 0≤sU∧sU <((K.after).length:Int) from (by omega)).1).symm<|zD 1<|jl 2 ((wx _ _ ahN).ext (gD (((px.trans tY).trans BX).trans D7)))<|jp (vs:=[zI aec.st,zI amJ.no]) [] [] (fun aJ hs hZ=>aen)<|jeq arN (akD UH.h UH.n UH.l aec.st amJ.no 0)<|zD 5<|zW ((d:Int)+1)<|zD 2 ?_
      have aYD:amJ=aec:=sa ahN ZP
      have hy2:yb2=aec:=sa awy ZP
      exact zF apJ (⟨d+1,(UH.h==aec.st&&(UH.n==amJ.no&&(UH.l==0&&true)&&true))⟩) (by dsimp only;rw[LQ (show _=some UH from by rw[←asw];exact ahO),←hG.2,aYD,hy2,show s=false by assumption];rfl) [0,1,2,3,4,5,6,7]
     refine zD 7<|js 196 (!s) (fun h35=>?_) (fun h35=>?_)
     ·
      try simp only[zB] at h35
      refine zD 3<|zW (m+1)<|zD 4<|zW ((c:Int)+1)<|zD 2<|zF F6 (⟨c+1,f1,(n+1),(m+1)⟩) ⟨hf1,by dsimp only;rw[(u9 tW (by omega) (by omega)).2.1,←hF.2.2.1],by dsimp only;rw[(u9 tW (by omega) (by omega)).2.2,Q5 aiG hxc awy (d:=d) (by omega),←hG.2,←hF.2.2.2,show s=false by assumption];rfl⟩ [0,1,2,3,4,5,6,7]
     try simp only[zB] at h35
     refine zD 4<|zW ((c:Int)+1)<|zD 2<|zF F6 (⟨c+1,f1,(n+1),m⟩) ⟨hf1,by dsimp only;rw[(u9 tW (by omega) (by omega)).2.1,←hF.2.2.1],by dsimp only;rw[(u9 tW (by omega) (by omega)).2.2,Q5 aiG hxc awy (d:=d) (by omega),←hG.2,←hF.2.2.2,show s=true by assumption];simp⟩ [0,1,2,3,4,5,6,7]
    refine zD 3<|js 146 f (fun h36=>?_) (fun h36=>?_)
    ·
     refine zD 2 ?_
     obtain⟨bfY,ahT⟩:=zG Pt c
     refine fK Ds 1 aRt ahT ?_
     obtain⟨aFz,aHs,aYG⟩:=haF.get ahT
     obtain aad:=kN aHs
     obtain⟨bcB,bcA,bcy,aEx,rfl,bcz,aEw,aEv⟩:=aYG
     refine jl 0 ((aRs _ _ ahT).ext (gD D7))<|zD 1 ?_
     obtain⟨aed,ZR⟩:=zG aFz (sU.toNat) (by rw[aad,List.length_map,List.length_range];omega)
     refine CU sU aEx 1 aEw ZR (Int.toNat_of_nonneg (show 0≤sU∧sU <((aFz).length:Int) from (by rw[aad,List.length_map,List.length_range];omega)).1).symm ?_
     refine jl 0 ((aEv _ _ ZR).ext (gD D7))<|zD 2<|js 155 aed (fun h37=>?_) (fun h37=>?_)
     ·
      refine zD 2<|jp (vs:=[.slice vJ gT.length qK,zI sU]) [] [] (fun aJ hs hZ=>ahu ((((show bJ _ _ _ _ _ from ⟨vJ,aEC,aEA,qK,rfl,aEB,Y0,YZ⟩).up BX).up D7).up hs) (by first|omega| (simp only[List.length_set,zM];omega))) ?_
      refine zD 5 ?_
      have hfx:aed=kU K c sU.toNat:=kN (n:=K.after.length) (by rw[←aad];exact ZR)
      exact bF acL (decide ((bS (fun y=>decide (y=sU)) gT 0)=(c:Int))) (by rw[(u9 tW (by omega) (by omega)).1,←hF.2.1,←hfx,show f=true by assumption,show aed=true by assumption];rfl) Nat.zero_lt_one (zN 0 8) (Sub.refl _)
     refine zD 8 ?_
     have hfx:aed=kU K c sU.toNat:=kN (n:=K.after.length) (by rw[←aad];exact ZR)
     exact bF acL false (by rw[(u9 tW (by omega) (by omega)).1,←hF.2.1,←hfx,show f=true by assumption,show aed=false by assumption];rfl) Nat.zero_lt_one (zN 0 8) (Sub.refl _)
    refine zD 17<|bF acL false (by rw[(u9 tW (by omega) (by omega)).1,←hF.2.1,show f=false by assumption];rfl) Nat.zero_lt_one (zN 0 8) (Sub.refl _)
   refine zD 8<|dH [1,1,1,1,1,1,1,1,0,1,0,0,1,0,0,1,1,1,0,0,1,0,0,1,1,1,0,1,0,0] [K11,K13] (fun(zz:Nat×Bool)=>[(1,zP b1),(2,zP b2),(4,zP b4),(6,.slice wa Ps.length wc),(8,.slice wU Qk.length wo),(9,.slice FH Pt.length Ds),(12,zI (i:Int)),(13,.slice Hr esP.length Dr),(14,zI (j:Int)),(15,.slice vJ gT.length qK),(16,.bool zz.2),(17,zI n),(18,zI m),(23,zI (zz.1:Int))]) (fun zz=>[.b b4 (.cells ⟨[zI al,vX,vG,vN,vM,zI lw]⟩ 55 (0,0)),.l LG,.l LN,.l LM,.l Z,.l LX,.b b2 (.cells ⟨[zI 0,zS,zS,zS,zS,zI 0]⟩ 55 (0,0)),.b b1 (.cells ⟨[vS,vT,.slice fa 0 fc,.slice dF K.cs.length dB,.slice di hv.length cP,.slice iI K.rules.length iH,.slice fC K.before.length eO,.slice fD K.after.length eQ,zI K.gone,zI K.new,zI K.af,.slice fS K.facts.length fe]⟩ 38 (0,0))]) (fun zz=>zz.1≤K.facts.length∧zz.2=(sE K gT K.before.length&&(K.facts.take zz.1).all (EY gT))) (fun zz=>K.facts.length-zz.1) (⟨0,f⟩) ⟨Nat.zero_le _,by dsimp only;rw[hF.2.1,show c=K.before.length by omega];simp⟩ (zN 0 8) ?_
   rintro⟨q,g⟩ hH K17 ay9 rest
   dsimp only at hH
   refine jd 9 [7]<|zJ 203 ((q:Int) <(K.facts.length:Int)) (fun h38=>?_) fun h38=>?_
   ·
    refine zD 4 ?_
    obtain⟨xq,hxq⟩:∃x,K.facts[q]?=some x:=⟨_,List.getElem?_eq_getElem (by omega)⟩
    refine zD 3<|js 1 g (fun h39=>?_) (fun h39=>?_)
    ·
     refine jd 3 [7] ?_
     obtain⟨amI,MO⟩:=zG K.facts q
     refine fK fe 3 wW MO<|zD 1<|jl 2 ((wV _ _ MO).ext (gD (((px.trans tY).trans BX).trans D7)))<|zD 2<|js 9 (!amI.same) (fun h40=>?_) (fun h40=>?_)
     ·
      have azk:=h40
      try simp only[zB] at azk
      refine zD 22<|zW ((q:Int)+1)<|zD 2<|zF ay9 (⟨q+1,true⟩) (by dsimp only;rw[cG MO,List.all_append,←Bool.and_assoc,←hH.2,List.all_cons,List.all_nil,ank (by assumption),show g=true by assumption];rfl) [0,1,2,3,4,5,6,7]
     have azk:=h40
     try simp only[zB] at azk
     refine jd 4 [7] ?_
     obtain⟨aeb,Sv⟩:=zG K.facts q
     refine fK fe 3 wW Sv<|zD 1<|jl 0 ((wV _ _ Sv).ext (gD (((px.trans tY).trans BX).trans D7))) ?_
     obtain⟨aOM,ahM⟩:=zG gT (aeb.a.toNat) (by have:=(CY _ (zL Sv)).1;omega)
     refine CU aeb.a qK 1 Y0 ahM (Int.toNat_of_nonneg (show 0≤aeb.a∧aeb.a <((gT).length:Int) from (by have:=(CY _ (zL Sv)).1;omega)).1).symm ?_
     refine jl 0 ((YZ _ _ ahM).ext (gD (BX.trans D7)))<|jd 3 [7] ?_
     obtain⟨aBM,ahL⟩:=zG K.facts q
     refine fK fe 3 wW ahL<|zD 1<|jl 1 ((wV _ _ ahL).ext (gD (((px.trans tY).trans BX).trans D7)))<|zD 7<|zW ((q:Int)+1)<|zD 2 ?_
     have aZd:aeb=amI:=sa Sv MO
     have aZc:aBM=amI:=sa ahL MO
     have OQ:amI.same=true:=by assumption
     exact zF ay9 (⟨q+1,decide (aOM=aBM.b)⟩) (by dsimp only;rw[cG MO,List.all_append,←Bool.and_assoc,←hH.2,List.all_cons,List.all_nil,afg OQ (by rw[←aZd];exact ahM),aZc,show g=true by assumption];simp) [0,1,2,3,4,5,6,7]
    refine zD 30<|zW ((q:Int)+1)<|zD 2<|zF ay9 (⟨q+1,false⟩) (by dsimp only;rw[cG hxq,List.all_append,←Bool.and_assoc,←hH.2,show g=false by assumption];rfl) [0,1,2,3,4,5,6,7]
   refine zD 4 ?_
   have haw:g=T7 K gT:=by have h:=hH.2;rwa[List.take_of_length_le (by omega)] at h
   refine zD 4<|js 235 (!g) (fun h41=>?_) (fun h41=>?_)
   ·
    try simp only[zB] at h41
    refine zD 4<|zW ((j:Int)+1)<|zD 2<|zY KN (⟨j+1,T,al,lw,vG,LG,vN,LN,vM,LM,Z⟩) ⟨⟨by dsimp only;omega,by dsimp only;rw[cG Z3,z0,←haw,←List.append_assoc,←hE.1.2,show g=false by assumption];simp⟩,hE.2⟩ [0,1,2,3,4,5,6,7]
   try simp only[zB] at h41
   refine zD 3 ?_
   have mM:=avK (by omega) BW (rowAt (ax K) i) i
   have hcb:c=K.before.length:=by omega
   have D6:(bI K (rowAt (ax K) i) i (wP K gT)).gone=K.before.length-n:=by rw[mM.1,hF.2.2.1,hcb]
   have H8:(bI K (rowAt (ax K) i) i (wP K gT)).new=K.after.length-n:=by rw[mM.2.1,hF.2.2.1,hcb]
   have BU:(bI K (rowAt (ax K) i) i (wP K gT)).af=m:=by rw[mM.2.2,hF.2.2.2,hcb]
   have aGl:nC (bI K (rowAt (ax K) i) i (wP K gT))=(K.before.length-n)+(K.after.length-n)+m:=by rw[nC,D6,H8,BU]
   have hTn:∀y∈T,0≤nC y:=by rw[hE.1.2];intro y hy;rcases List.mem_append.1 hy with h|h;exact Jw hnf yV CY _ y h;exact Qz hnf yV CY (fun w hw=>uF.1 (List.mem_of_mem_take hw)) y h
   have hTl:T.length≤1900:=by rw[hE.1.2,List.length_append];have h1:=Nv (rows:=ax K) yV Ec i;have h2:=Li (K:=K) (r:=(rowAt (ax K) i)) (i:=i) (W:=(nT (K.after.length+1) K.before.length).take j);rw[List.length_take] at h2;omega
   have MU:=ahd (K:=K) (T:=T)
   refine jd 5 [7]<|zW ((K.before.length:Int)-n)<|jd 4 [7]<|zW ((K.after.length:Int)-n)<|zD 8<|zW (((K.before.length:Int)-n)+((K.after.length:Int)-n))<|zD 1<|zW ((((K.before.length:Int)-n)+((K.after.length:Int)-n))+m)<|jd 8 [0]<|jj 5 [(1,zP b1),(2,zP b2),(4,zP b4),(6,.slice wa Ps.length wc),(8,.slice wU Qk.length wo),(9,.slice FH Pt.length Ds),(12,zI (i:Int)),(13,.slice Hr esP.length Dr),(14,zI (j:Int)),(15,.slice vJ gT.length qK),(18,zI m),(24,zI ((K.before.length:Int)-n)),(25,zI ((K.after.length:Int)-n)),(26,zI ((((K.before.length:Int)-n)+((K.after.length:Int)-n))+m)),(259,.bool ((decide (lw <0))||(decide (((((K.before.length:Int)-n)+((K.after.length:Int)-n))+m) <lw))))] (fun fA=>?_) (fun hj=>?_)
   rotate_left
   refine js 254 (decide (lw <0)) (fun h42=>?_) (fun h42=>?_)
   ·
    have ajM:=h42
    replace ajM:=of_decide_eq_true ajM
    refine zD 5<|jw 259 (.bool ((decide (lw <0))||(decide (((((K.before.length:Int)-n)+((K.after.length:Int)-n))+m) <lw)))) (w:= .bool true) (by rw[h42]<;>rfl) ?_
    exact zK hj
   ·
    have ajM:=h42
    replace ajM:=of_decide_eq_false ajM
    refine jd 5 [0]<|jw 259 (.bool ((decide (lw <0))||(decide (((((K.before.length:Int)-n)+((K.after.length:Int)-n))+m) <lw)))) (w:= .bool (decide (((((K.before.length:Int)-n)+((K.after.length:Int)-n))+m) <lw))) (by rw[h42]<;>rfl) ?_
    exact zK hj
   refine zD 1<|GD [1,1,1,1,1,1,1,1,0,1,0,0,1,0,0,1,1,1,0,0,1,0,0,1,1,1,1,1,1,1] [K11,K13] (fun(zz:Int)=>[(1,zP b1),(2,zP b2),(4,zP b4),(6,.slice wa Ps.length wc),(8,.slice wU Qk.length wo),(9,.slice FH Pt.length Ds),(12,zI (i:Int)),(13,.slice Hr esP.length Dr),(14,zI (j:Int)),(15,.slice vJ gT.length qK),(18,zI m),(24,zI ((K.before.length:Int)-n)),(25,zI ((K.after.length:Int)-n))]) (fun zz=>[.b b4 (.cells ⟨[zI al,vX,vG,vN,vM,zI zz]⟩ 55 (0,0)),.l LG,.l LN,.l LM,.l Z,.l LX,.b b2 (.cells ⟨[zI 0,zS,zS,zS,zS,zI 0]⟩ 55 (0,0)),.b b1 (.cells ⟨[vS,vT,.slice fa 0 fc,.slice dF K.cs.length dB,.slice di hv.length cP,.slice iI K.rules.length iH,.slice fC K.before.length eO,.slice fD K.after.length eQ,zI K.gone,zI K.new,zI K.af,.slice fS K.facts.length fe]⟩ 38 (0,0))]) (fun zz=>zz=iL (T++[(bI K (rowAt (ax K) i) i (wP K gT))])) ?_ (fun K18 aJC=>?_)
   ·
    rintro lw2 hlw rest
    refine jd 8 [7]<|jj 5 [(1,zP b1),(2,zP b2),(4,zP b4),(6,.slice wa Ps.length wc),(8,.slice wU Qk.length wo),(9,.slice FH Pt.length Ds),(12,zI (i:Int)),(13,.slice Hr esP.length Dr),(14,zI (j:Int)),(15,.slice vJ gT.length qK),(18,zI m),(24,zI ((K.before.length:Int)-n)),(25,zI ((K.after.length:Int)-n)),(271,.bool ((decide (((K.before.length:Int)-n)>K.gone))||(decide (((K.after.length:Int)-n)>K.new))))] (fun fA=>?_) (fun hj=>?_)
    rotate_left
    refine js 266 (decide (((K.before.length:Int)-n)>K.gone)) (fun h43=>?_) (fun h43=>?_)
    ·
     have ajL:=h43
     replace ajL:=of_decide_eq_true ajL
     refine zD 5<|jw 271 (.bool ((decide (((K.before.length:Int)-n)>K.gone))||(decide (((K.after.length:Int)-n)>K.new)))) (w:= .bool true) (by rw[h43]<;>rfl) ?_
     exact zK hj
    ·
     have ajL:=h43
     replace ajL:=of_decide_eq_false ajL
     refine jd 5 [7]<|jw 271 (.bool ((decide (((K.before.length:Int)-n)>K.gone))||(decide (((K.after.length:Int)-n)>K.new)))) (w:= .bool (decide (((K.after.length:Int)-n)>K.new))) (by rw[h43]<;>rfl) ?_
     exact zK hj
    refine zD 1<|jj 5 [(1,zP b1),(2,zP b2),(4,zP b4),(6,.slice wa Ps.length wc),(8,.slice wU Qk.length wo),(9,.slice FH Pt.length Ds),(12,zI (i:Int)),(13,.slice Hr esP.length Dr),(14,zI (j:Int)),(15,.slice vJ gT.length qK),(18,zI m),(24,zI ((K.before.length:Int)-n)),(25,zI ((K.after.length:Int)-n)),(277,.bool (((decide (((K.before.length:Int)-n)>K.gone))||(decide (((K.after.length:Int)-n)>K.new)))||(decide (m>K.af))))] (fun fA=>?_) (fun hj=>?_)
    rotate_left
    refine js 272 ((decide (((K.before.length:Int)-n)>K.gone))||(decide (((K.after.length:Int)-n)>K.new))) (fun h44=>?_) (fun h44=>?_)
    ·
     have azi:=h44
     try simp only[zB] at azi
     refine zD 5<|jw 277 (.bool (((decide (((K.before.length:Int)-n)>K.gone))||(decide (((K.after.length:Int)-n)>K.new)))||(decide (m>K.af)))) (w:= .bool true) (by rw[h44]<;>rfl) ?_
     exact zK hj
    ·
     have azi:=h44
     try simp only[zB] at azi
     refine jd 5 [7]<|jw 277 (.bool (((decide (((K.before.length:Int)-n)>K.gone))||(decide (((K.after.length:Int)-n)>K.new)))||(decide (m>K.af)))) (w:= .bool (decide (m>K.af))) (by rw[h44]<;>rfl) ?_
     exact zK hj
    refine zD 1<|js 277 (((decide (((K.before.length:Int)-n)>K.gone))||(decide (((K.after.length:Int)-n)>K.new)))||(decide (m>K.af))) (fun h45=>?_) (fun h45=>?_)
    ·
     try simp only[zB] at h45
     have qB:bV K.gone K.new K.af (bI K (rowAt (ax K) i) i (wP K gT))=false:=aov (by rw[D6,H8,BU];omega)
     refine zD 4<|zW ((j:Int)+1)<|zD 2 ?_
     have Uv:aW K (T++[(bI K (rowAt (ax K) i) i (wP K gT))])=aW K T:=by rw[DY,qB,cond_false,List.append_nil]
     exact zY KN (⟨j+1,(T++[(bI K (rowAt (ax K) i) i (wP K gT))]),al,lw2,vG,LG,vN,LN,vM,LM,Z⟩) ⟨⟨by dsimp only;omega,by dsimp only;rw[cG Z3,z0,←haw,←List.append_assoc,←hE.1.2,show g=true by assumption];rfl⟩,⟨by dsimp only;rw[Uv];exact hE.2.1.1,hlw⟩,by dsimp only;rw[Uv];exact hE.2.2⟩ [0,1,2,3,4,5,6,7]
    try simp only[zB] at h45
    have qB:bV K.gone K.new K.af (bI K (rowAt (ax K) i) i (wP K gT))=true:=ahe (by rw[D6,H8,BU];omega)
    refine jd 6 [0]<|zW (al+1)<|jd 4 [0]<|GD [1,1,1,1,1,1,1,1,0,1,0,0,1,0,0,1,1,1,0,0,1,0,0,1,1,1,1,1,1,1,1,1,1] [K11,K13] (fun(zz:Value×Cells×Value×Cells×Value×Cells)=>[(1,zP b1),(2,zP b2),(4,zP b4),(6,.slice wa Ps.length wc),(8,.slice wU Qk.length wo),(9,.slice FH Pt.length Ds),(12,zI (i:Int)),(13,.slice Hr esP.length Dr),(14,zI (j:Int)),(15,.slice vJ gT.length qK)]) (fun zz=>[.b b4 (.cells ⟨[zI (al+1),vX,zz.1,zz.2.2.1,zz.2.2.2.2.1,zI lw2]⟩ 55 (0,0)),.l zz.2.1,.l zz.2.2.2.1,.l zz.2.2.2.2.2,.l Z,.l LX,.b b2 (.cells ⟨[zI 0,zS,zS,zS,zS,zI 0]⟩ 55 (0,0)),.b b1 (.cells ⟨[vS,vT,.slice fa 0 fc,.slice dF K.cs.length dB,.slice di hv.length cP,.slice iI K.rules.length iH,.slice fC K.before.length eO,.slice fD K.after.length eQ,zI K.gone,zI K.new,zI K.af,.slice fS K.facts.length fe]⟩ 38 (0,0))]) (fun zz=>(aA zz.1 1 3 aS ((aW K (T++[(bI K (rowAt (ax K) i) i (wP K gT))])).map fun x=>x.gone) zz.2.1∧aA zz.2.2.1 1 3 aS ((aW K (T++[(bI K (rowAt (ax K) i) i (wP K gT))])).map fun x=>x.new) zz.2.2.2.1∧aA zz.2.2.2.2.1 1 3 aS ((aW K (T++[(bI K (rowAt (ax K) i) i (wP K gT))])).map fun x=>x.af) zz.2.2.2.2.2)) ?_ (fun K19 AP=>?_)
    ·
     rintro⟨vG,LG,vN,LN,vM,LM⟩ J0 rest
     dsimp only at J0
     refine zD 5<|dH [1,1,1,1,1,1,1,1,0,1,0,0,1,0,0,1,1,1,0,0,1,0,0,1,1,1,1,1,1,1,1,1,1,1,0,0] [K11,K13] (fun(zz:Nat×Cells)=>[(1,zP b1),(2,zP b2),(4,zP b4),(6,.slice wa Ps.length wc),(8,.slice wU Qk.length wo),(9,.slice FH Pt.length Ds),(12,zI (i:Int)),(13,.slice Hr esP.length Dr),(14,zI (j:Int)),(15,.slice vJ gT.length qK),(27,zI (zz.1:Int))]) (fun zz=>[.l zz.2,.b b4 (.cells ⟨[zI (al+1),vX,vG,vN,vM,zI lw2]⟩ 55 (0,0)),.l LG,.l LN,.l LM,.l LX,.b b2 (.cells ⟨[zI 0,zS,zS,zS,zS,zI 0]⟩ 55 (0,0)),.b b1 (.cells ⟨[vS,vT,.slice fa 0 fc,.slice dF K.cs.length dB,.slice di hv.length cP,.slice iI K.rules.length iH,.slice fC K.before.length eO,.slice fD K.after.length eQ,zI K.gone,zI K.new,zI K.af,.slice fS K.facts.length fe]⟩ 38 (0,0))]) (fun zz=>zz.1≤gT.length∧iE Xv (tG K (aW K T) (bI K (rowAt (ax K) i) i (wP K gT)) zz.1) zz.2) (fun zz=>gT.length-zz.1) (⟨0,Z⟩) ⟨Nat.zero_le _,by dsimp only;rw[U0];exact hE.2.2.2⟩ [4,0,1,2,3,5,6,7] ?_
     rintro⟨k,Z⟩ hI9 K20 aX9 rest
     dsimp only at hI9
     refine zD 8<|zJ 303 ((k:Int) <(gT.length:Int)) (fun h46=>?_) fun h46=>?_
     ·
      refine zD 4 ?_
      obtain⟨eT,heT⟩:∃e,Xv[k]?=some e:=⟨_,List.getElem?_eq_getElem (by rw[hI9.2.len];simp only[tG,List.length_map,List.length_range];omega)⟩
      obtain⟨rT,Z1,LT,Z2,hrT,hZe,hOT,vZ⟩:=hI9.2.cut heT
      subst hZe
      obtain rfl:kp K (aW K T) k=rT:=(aeN hrT).symm
      have bju:(kp K (aW K T) k).length=K.after.length+1:=by simp[kp]
      refine jg 0 [.l Z1,.l LT,.l Z2]<|jd 4 [3] ?_
      obtain⟨aOL,ahK⟩:=zG Xv k (by have:=hI9.2.len;simp only[tG,List.length_map,List.length_range] at this;omega)
      refine Un 1 hA.2.1 ahK fun bma aIc=>n7 0 [7] LX (fun s _ hZ=>cB hA.2.1 aIc hZ ahK) ?_
      obtain rfl:eT=aOL:=Option.some.inj (heT.symm.trans ahK)
      refine zD 2 ?_
      obtain⟨G0,Fb⟩:=zG gT k
      refine fK qK 1 Y0 Fb<|jl 0 ((YZ _ _ Fb).ext (gD (BX.trans D7))) ?_
      obtain⟨atv,ZO⟩:=zG ((kp K (aW K T) k)) (G0.toNat) (by have:=BW.2 _ (zL Fb);omega)
      refine qg G0 1 hOT ZO (Int.toNat_of_nonneg (show 0≤G0∧G0 <(((kp K (aW K T) k)).length:Int) from (by have:=BW.2 _ (zL Fb);omega)).1).symm (fun bl8 aIb=>?_)
      refine n7 0 [1] LT (fun s _ hZ=>cB hOT aIb hZ ZO)<|ja (atv+1) (by have h1:=List.length_filter_le (fun x=>decide (pI x k=QO K G0.toNat)) (aW K T);have h2:=kN ZO;simp only[tmC] at h2;omega) ?_
      obtain⟨bfV,ar5⟩:=zG ((kp K (aW K T) k)) (G0.toNat) (by have:=BW.2 _ (zL Fb);omega)
      refine qg G0 1 hOT ar5 (Int.toNat_of_nonneg (show 0≤G0∧G0 <(((kp K (aW K T) k)).length:Int) from (by have:=BW.2 _ (zL Fb);omega)).1).symm (fun bl6 aIa=>?_)
      refine aP 13 fun aBB aCO acK=>Qc 1 0 [zI (atv+1)] (atv+1) hOT aIa ar5 rfl rfl (Nat.le_of_ble_eq_true rfl) fun L48 aU1=>eB acK<|zD 3<|zW ((k:Int)+1)<|zD 2<|zV aX9 (⟨k+1,Z1++(L48++Z2)⟩) ⟨by dsimp only;omega,by dsimp only;have h:=vZ _ _ aU1;rwa[U1 (by omega) (by have:=BW.2 _ (zL Fb);omega) (aEN BW Fb (by omega)) ZO] at h⟩ [[1,0,2],[3],[4],[5],[6],[7],[8],[9]]
     refine zD 4<|zW ((j:Int)+1)<|zD 2 ?_
     have Uv:aW K (T++[(bI K (rowAt (ax K) i) i (wP K gT))])=aW K T++[(bI K (rowAt (ax K) i) i (wP K gT))]:=by rw[DY,qB,cond_true]
     exact zY KN (⟨j+1,(T++[(bI K (rowAt (ax K) i) i (wP K gT))]),(al+1),lw2,vG,LG,vN,LN,vM,LM,Z⟩) ⟨⟨by dsimp only;omega,by dsimp only;rw[cG Z3,z0,←haw,←List.append_assoc,←hE.1.2,show g=true by assumption];rfl⟩,⟨by dsimp only;rw[Uv,hE.2.1.1,List.length_append];simp,hlw⟩,J0,by dsimp only;have h:=hI9.2;rw[show k=K.before.length by omega,abj,←Uv] at h;exact h⟩ [1,2,3,4,0,5,6,7]
    refine jd 10 [0,0,0]<|ze [3,8,13] ⟨fun z22 t23 ajw=>?_,fun z25 t26 Iw=>?_,fun kY t29 W8=>?_,trivial⟩
    ·
     refine jn fun A0=>dW ajw (zN 1 8)<|ze [4,8,13] ⟨fun z31 t32 ay6=>?_,fun z34 t35 O7=>?_,fun z37 t38 ajt=>?_,trivial⟩
     ·
      refine cH aS A0 ((K.before.length:Int)-n) 2 0 hE.2.2.1.1 rfl rfl (by simp only[List.length_map];omega) (fun za y9 pZ eA=>?_)
      refine eW ay6 [[2],[2]]<|zD 1<|ze [8,13] ⟨fun z40 t41 ay2=>?_,fun z43 t44 apH=>?_,trivial⟩
      ·
       refine jn fun rD=>dW ay2 (zN 1 9)<|ze [9,13] ⟨fun z46 t47 ay1=>?_,fun z49 t50 ajs=>?_,trivial⟩
       ·
        refine cH aS rD ((K.after.length:Int)-n) 4 0 hE.2.2.1.2.1 rfl rfl (by simp only[List.length_map];omega) (fun r5 rY nz dw=>?_)
        refine eW ay1 [[4]]<|aP 13 fun aqR arc ajr=>jn fun pn=>dW ajr (zN 1 10)<|aP 14 fun aqQ arb ajq=>cH aS pn m 6 0 hE.2.2.1.2.2 rfl rfl (by simp only[List.length_map];omega) (fun rZ rX ny dv=>?_)
        refine eW ajq []<|aP 16 fun aqP ara ajp=>jd 1 [6]<|eB ajp<|zD 1<|aP 18 fun aqO aq9 ajo=>jd 1 [6]<|eB ajo<|zD 1<|aP 20 fun aqN aq8 ajn=>jd 1 [6]<|eB ajn<|zD 1<|bF AP ⟨(_),pZ,(_),nz,(_),ny⟩ ⟨dR eA qB D6,dR dw qB H8,dR dv qB BU⟩ Nat.zero_lt_one [6,4,2,0,7,8,9,10] (Sub.refl _)
       refine jn fun pn=>dW ajs (zN 1 10)<|aP 9 fun aqM aq7 ajm=>cH aS rD ((K.after.length:Int)-n) 5 1 hE.2.2.1.2.1 rfl rfl (by simp only[List.length_map];omega) (fun r5 rY nz dw=>?_)
       refine eW ajm [[5]]<|aP 14 fun aBu aCH ayZ=>cH aS pn m 6 1 hE.2.2.1.2.2 rfl rfl (by simp only[List.length_map];omega) (fun rZ rX ny dv=>?_)
       refine eW ayZ []<|aP 16 fun aBt aCG ayY=>jd 1 [6]<|eB ayY<|zD 1<|aP 18 fun aBs aCF ayX=>jd 1 [6]<|eB ayX<|zD 1<|aP 20 fun aBr aCE ayW=>jd 1 [6]<|eB ayW<|zD 1<|bF AP ⟨(_),pZ,(_),nz,(_),ny⟩ ⟨dR eA qB D6,dR dw qB H8,dR dv qB BU⟩ Nat.zero_lt_one [6,4,1,0,7,8,9,10] (Sub.refl _)
      refine jn fun pn=>dW apH (zN 1 9)<|aP 8 fun aBq aCD ayV=>jn fun rD=>dW ayV (zN 1 10)<|aP 9 fun aBp aCC ayU=>cH aS rD ((K.after.length:Int)-n) 5 0 hE.2.2.1.2.1 rfl rfl (by simp only[List.length_map];omega) (fun r5 rY nz dw=>?_)
      refine eW ayU [[5]]<|aP 14 fun aBo aCB ayT=>cH aS pn m 6 2 hE.2.2.1.2.2 rfl rfl (by simp only[List.length_map];omega) (fun rZ rX ny dv=>?_)
      refine eW ayT []<|aP 16 fun aBn aCA ayS=>jd 1 [6]<|eB ayS<|zD 1<|aP 18 fun aBm aCz ayR=>jd 1 [6]<|eB ayR<|zD 1<|aP 20 fun aBl aCy ajl=>jd 1 [6]<|eB ajl<|zD 1<|bF AP ⟨(_),pZ,(_),nz,(_),ny⟩ ⟨dR eA qB D6,dR dw qB H8,dR dv qB BU⟩ Nat.zero_lt_one [6,4,1,0,7,8,9,10] (Sub.refl _)
     ·
      refine jn fun rD=>dW O7 (zN 1 9)<|ze [4,13] ⟨fun z68 t69 aXW=>?_,fun z71 t72 aXV=>?_,trivial⟩
      ·
       refine cH aS A0 ((K.before.length:Int)-n) 3 1 hE.2.2.1.1 rfl rfl (by simp only[List.length_map];omega) (fun za y9 pZ eA=>?_)
       refine eW aXW [[3],[3]]<|zD 1<|ze [9,13] ⟨fun z74 t75 aXU=>?_,fun z77 t78 aXT=>?_,trivial⟩
       ·
        refine cH aS rD ((K.after.length:Int)-n) 4 1 hE.2.2.1.2.1 rfl rfl (by simp only[List.length_map];omega) (fun r5 rY nz dw=>?_)
        refine eW aXU [[4]]<|aP 13 fun ba4 bbS aXS=>jn fun pn=>dW aXS (zN 1 10)<|aP 14 fun ba3 bbR aXR=>cH aS pn m 6 0 hE.2.2.1.2.2 rfl rfl (by simp only[List.length_map];omega) (fun rZ rX ny dv=>?_)
        refine eW aXR []<|aP 16 fun ba2 bbQ aXQ=>jd 1 [6]<|eB aXQ<|zD 1<|aP 18 fun ba1 bbP aXP=>jd 1 [6]<|eB aXP<|zD 1<|aP 20 fun ba0 bbO aXO=>jd 1 [6]<|eB aXO<|zD 1<|bF AP ⟨(_),pZ,(_),nz,(_),ny⟩ ⟨dR eA qB D6,dR dw qB H8,dR dv qB BU⟩ Nat.zero_lt_one [6,3,2,0,7,8,9,10] (Sub.refl _)
       refine jn fun pn=>dW aXT (zN 1 10)<|aP 9 fun baZ bbN aXN=>cH aS rD ((K.after.length:Int)-n) 5 2 hE.2.2.1.2.1 rfl rfl (by simp only[List.length_map];omega) (fun r5 rY nz dw=>?_)
       refine eW aXN [[5]]<|aP 14 fun baY bbM aXM=>cH aS pn m 6 1 hE.2.2.1.2.2 rfl rfl (by simp only[List.length_map];omega) (fun rZ rX ny dv=>?_)
       refine eW aXM []<|aP 16 fun baX bbL aXL=>jd 1 [6]<|eB aXL<|zD 1<|aP 18 fun baW bbK aXK=>jd 1 [6]<|eB aXK<|zD 1<|aP 20 fun baV bbJ aXJ=>jd 1 [6]<|eB aXJ<|zD 1<|bF AP ⟨(_),pZ,(_),nz,(_),ny⟩ ⟨dR eA qB D6,dR dw qB H8,dR dv qB BU⟩ Nat.zero_lt_one [6,3,1,0,7,8,9,10] (Sub.refl _)
      refine jn fun pn=>dW aXV (zN 1 10)<|aP 4 fun baU bbI aXI=>cH aS A0 ((K.before.length:Int)-n) 4 2 hE.2.2.1.1 rfl rfl (by simp only[List.length_map];omega) (fun za y9 pZ eA=>?_)
      refine eW aXI [[4],[4]]<|zD 1<|aP 9 fun baT bbH aXH=>cH aS rD ((K.after.length:Int)-n) 5 2 hE.2.2.1.2.1 rfl rfl (by simp only[List.length_map];omega) (fun r5 rY nz dw=>?_)
      refine eW aXH [[5]]<|aP 14 fun baS bbG aXG=>cH aS pn m 6 2 hE.2.2.1.2.2 rfl rfl (by simp only[List.length_map];omega) (fun rZ rX ny dv=>?_)
      refine eW aXG []<|aP 16 fun baR bbF aXF=>jd 1 [6]<|eB aXF<|zD 1<|aP 18 fun baQ bbE aXE=>jd 1 [6]<|eB aXE<|zD 1<|aP 20 fun baP bbD aXD=>jd 1 [6]<|eB aXD<|zD 1<|bF AP ⟨(_),pZ,(_),nz,(_),ny⟩ ⟨dR eA qB D6,dR dw qB H8,dR dv qB BU⟩ Nat.zero_lt_one [6,2,1,0,7,8,9,10] (Sub.refl _)
     refine jn fun pn=>dW ajt (zN 1 9)<|ze [4,8] ⟨fun z96 t97 aXC=>?_,fun z99 t100 aJx=>?_,trivial⟩
     ·
      refine cH aS A0 ((K.before.length:Int)-n) 3 1 hE.2.2.1.1 rfl rfl (by simp only[List.length_map];omega) (fun za y9 pZ eA=>?_)
      refine eW aXC [[3],[3]]<|zD 1<|aP 8 fun aOz aQL aJw=>jn fun rD=>dW aJw (zN 1 10)<|aP 9 fun aOy aQK aJv=>cH aS rD ((K.after.length:Int)-n) 5 0 hE.2.2.1.2.1 rfl rfl (by simp only[List.length_map];omega) (fun r5 rY nz dw=>?_)
      refine eW aJv [[5]]<|aP 14 fun aOx aQJ aJu=>cH aS pn m 6 3 hE.2.2.1.2.2 rfl rfl (by simp only[List.length_map];omega) (fun rZ rX ny dv=>?_)
      refine eW aJu []<|aP 16 fun aOw aQI aJt=>jd 1 [6]<|eB aJt<|zD 1<|aP 18 fun aOv aQH aJs=>jd 1 [6]<|eB aJs<|zD 1<|aP 20 fun aOu aQG aJr=>jd 1 [6]<|eB aJr<|zD 1<|bF AP ⟨(_),pZ,(_),nz,(_),ny⟩ ⟨dR eA qB D6,dR dw qB H8,dR dv qB BU⟩ Nat.zero_lt_one [6,3,1,0,7,8,9,10] (Sub.refl _)
     refine jn fun rD=>dW aJx (zN 1 10)<|aP 4 fun aOt aQF aJq=>cH aS A0 ((K.before.length:Int)-n) 4 2 hE.2.2.1.1 rfl rfl (by simp only[List.length_map];omega) (fun za y9 pZ eA=>?_)
     refine eW aJq [[4],[4]]<|zD 1<|aP 9 fun aOs aQE aJp=>cH aS rD ((K.after.length:Int)-n) 5 1 hE.2.2.1.2.1 rfl rfl (by simp only[List.length_map];omega) (fun r5 rY nz dw=>?_)
     refine eW aJp [[5]]<|aP 14 fun aOr aQD aJo=>cH aS pn m 6 3 hE.2.2.1.2.2 rfl rfl (by simp only[List.length_map];omega) (fun rZ rX ny dv=>?_)
     refine eW aJo []<|aP 16 fun aOq aQC aJn=>jd 1 [6]<|eB aJn<|zD 1<|aP 18 fun aOp aQB aJm=>jd 1 [6]<|eB aJm<|zD 1<|aP 20 fun aOo aQA aJl=>jd 1 [6]<|eB aJl<|zD 1<|bF AP ⟨(_),pZ,(_),nz,(_),ny⟩ ⟨dR eA qB D6,dR dw qB H8,dR dv qB BU⟩ Nat.zero_lt_one [6,2,1,0,7,8,9,10] (Sub.refl _)
    ·
     refine jn fun rD=>dW Iw (zN 1 8)<|ze [3,13] ⟨fun bfJ t115 aJk=>?_,fun bfI t118 aJj=>?_,trivial⟩
     ·
      refine jn fun A0=>dW aJk (zN 1 9)<|ze [4,13] ⟨fun bfG t121 aJi=>?_,fun bfF t124 aJh=>?_,trivial⟩
      ·
       refine cH aS A0 ((K.before.length:Int)-n) 3 0 hE.2.2.1.1 rfl rfl (by simp only[List.length_map];omega) (fun za y9 pZ eA=>?_)
       refine eW aJi [[3],[3]]<|zD 1<|ze [9,13] ⟨fun bfE t127 aJg=>?_,fun bfD t130 aJf=>?_,trivial⟩
       ·
        refine cH aS rD ((K.after.length:Int)-n) 4 2 hE.2.2.1.2.1 rfl rfl (by simp only[List.length_map];omega) (fun r5 rY nz dw=>?_)
        refine eW aJg [[4]]<|aP 13 fun aOn aQz aJe=>jn fun pn=>dW aJe (zN 1 10)<|aP 14 fun aOm aQy aJd=>cH aS pn m 6 0 hE.2.2.1.2.2 rfl rfl (by simp only[List.length_map];omega) (fun rZ rX ny dv=>?_)
        refine eW aJd []<|aP 16 fun aOl aQx aJc=>jd 1 [6]<|eB aJc<|zD 1<|aP 18 fun aOk aQw aJb=>jd 1 [6]<|eB aJb<|zD 1<|aP 20 fun aOj aQv aJa=>jd 1 [6]<|eB aJa<|zD 1<|bF AP ⟨(_),pZ,(_),nz,(_),ny⟩ ⟨dR eA qB D6,dR dw qB H8,dR dv qB BU⟩ Nat.zero_lt_one [6,3,2,0,7,8,9,10] (Sub.refl _)
       refine jn fun pn=>dW aJf (zN 1 10)<|aP 9 fun aOi aQu aI9=>cH aS rD ((K.after.length:Int)-n) 5 3 hE.2.2.1.2.1 rfl rfl (by simp only[List.length_map];omega) (fun r5 rY nz dw=>?_)
       refine eW aI9 [[5]]<|aP 14 fun aOh aQt aI8=>cH aS pn m 6 1 hE.2.2.1.2.2 rfl rfl (by simp only[List.length_map];omega) (fun rZ rX ny dv=>?_)
       refine eW aI8 []<|aP 16 fun aOg aQs aI7=>jd 1 [6]<|eB aI7<|zD 1<|aP 18 fun aOf aQr aI6=>jd 1 [6]<|eB aI6<|zD 1<|aP 20 fun aOe aQq aI5=>jd 1 [6]<|eB aI5<|zD 1<|bF AP ⟨(_),pZ,(_),nz,(_),ny⟩ ⟨dR eA qB D6,dR dw qB H8,dR dv qB BU⟩ Nat.zero_lt_one [6,3,1,0,7,8,9,10] (Sub.refl _)
      refine jn fun pn=>dW aJh (zN 1 10)<|aP 4 fun aOd aQp aI4=>cH aS A0 ((K.before.length:Int)-n) 4 1 hE.2.2.1.1 rfl rfl (by simp only[List.length_map];omega) (fun za y9 pZ eA=>?_)
      refine eW aI4 [[4],[4]]<|zD 1<|aP 9 fun aOc aQo aI3=>cH aS rD ((K.after.length:Int)-n) 5 3 hE.2.2.1.2.1 rfl rfl (by simp only[List.length_map];omega) (fun r5 rY nz dw=>?_)
      refine eW aI3 [[5]]<|aP 14 fun aOb aQn aI2=>cH aS pn m 6 2 hE.2.2.1.2.2 rfl rfl (by simp only[List.length_map];omega) (fun rZ rX ny dv=>?_)
      refine eW aI2 []<|aP 16 fun aOa aQm aI1=>jd 1 [6]<|eB aI1<|zD 1<|aP 18 fun aN9 aQl aI0=>jd 1 [6]<|eB aI0<|zD 1<|aP 20 fun aN8 aQk aIZ=>jd 1 [6]<|eB aIZ<|zD 1<|bF AP ⟨(_),pZ,(_),nz,(_),ny⟩ ⟨dR eA qB D6,dR dw qB H8,dR dv qB BU⟩ Nat.zero_lt_one [6,2,1,0,7,8,9,10] (Sub.refl _)
     refine jn fun pn=>dW aJj (zN 1 9)<|aP 3 fun aN7 aQj aIY=>jn fun A0=>dW aIY (zN 1 10)<|aP 4 fun aN6 aQi aIX=>cH aS A0 ((K.before.length:Int)-n) 4 0 hE.2.2.1.1 rfl rfl (by simp only[List.length_map];omega) (fun za y9 pZ eA=>?_)
     refine eW aIX [[4],[4]]<|zD 1<|aP 9 fun aN5 aQh aIW=>cH aS rD ((K.after.length:Int)-n) 5 3 hE.2.2.1.2.1 rfl rfl (by simp only[List.length_map];omega) (fun r5 rY nz dw=>?_)
     refine eW aIW [[5]]<|aP 14 fun aN4 aQg aIV=>cH aS pn m 6 3 hE.2.2.1.2.2 rfl rfl (by simp only[List.length_map];omega) (fun rZ rX ny dv=>?_)
     refine eW aIV []<|aP 16 fun aN3 aQf aIU=>jd 1 [6]<|eB aIU<|zD 1<|aP 18 fun aN2 aQe aIT=>jd 1 [6]<|eB aIT<|zD 1<|aP 20 fun aN1 aQd aIS=>jd 1 [6]<|eB aIS<|zD 1<|bF AP ⟨(_),pZ,(_),nz,(_),ny⟩ ⟨dR eA qB D6,dR dw qB H8,dR dv qB BU⟩ Nat.zero_lt_one [6,2,1,0,7,8,9,10] (Sub.refl _)
    refine jn fun pn=>dW W8 (zN 1 8)<|ze [3,8] ⟨fun bfB t156 aIR=>?_,fun bfA t159 aIQ=>?_,trivial⟩
    ·
     refine jn fun A0=>dW aIR (zN 1 9)<|ze [4,8] ⟨fun bfz t162 aIP=>?_,fun bfy t165 aIO=>?_,trivial⟩
     ·
      refine cH aS A0 ((K.before.length:Int)-n) 3 0 hE.2.2.1.1 rfl rfl (by simp only[List.length_map];omega) (fun za y9 pZ eA=>?_)
      refine eW aIP [[3],[3]]<|zD 1<|aP 8 fun aN0 aQc aIN=>jn fun rD=>dW aIN (zN 1 10)<|aP 9 fun aNZ aQb aIM=>cH aS rD ((K.after.length:Int)-n) 5 0 hE.2.2.1.2.1 rfl rfl (by simp only[List.length_map];omega) (fun r5 rY nz dw=>?_)
      refine eW aIM [[5]]<|aP 14 fun aNY aQa aIL=>cH aS pn m 6 4 hE.2.2.1.2.2 rfl rfl (by simp only[List.length_map];omega) (fun rZ rX ny dv=>?_)
      refine eW aIL []<|aP 16 fun aNX aP9 aIK=>jd 1 [6]<|eB aIK<|zD 1<|aP 18 fun aNW aP8 aIJ=>jd 1 [6]<|eB aIJ<|zD 1<|aP 20 fun aNV aP7 aII=>jd 1 [6]<|eB aII<|zD 1<|bF AP ⟨(_),pZ,(_),nz,(_),ny⟩ ⟨dR eA qB D6,dR dw qB H8,dR dv qB BU⟩ Nat.zero_lt_one [6,3,1,0,7,8,9,10] (Sub.refl _)
     refine jn fun rD=>dW aIO (zN 1 10)<|aP 4 fun aNU aP6 aIH=>cH aS A0 ((K.before.length:Int)-n) 4 1 hE.2.2.1.1 rfl rfl (by simp only[List.length_map];omega) (fun za y9 pZ eA=>?_)
     refine eW aIH [[4],[4]]<|zD 1<|aP 9 fun aNT aP5 aIG=>cH aS rD ((K.after.length:Int)-n) 5 1 hE.2.2.1.2.1 rfl rfl (by simp only[List.length_map];omega) (fun r5 rY nz dw=>?_)
     refine eW aIG [[5]]<|aP 14 fun aNS aP4 aIF=>cH aS pn m 6 4 hE.2.2.1.2.2 rfl rfl (by simp only[List.length_map];omega) (fun rZ rX ny dv=>?_)
     refine eW aIF []<|aP 16 fun aNR aP3 aIE=>jd 1 [6]<|eB aIE<|zD 1<|aP 18 fun aNQ aP2 aID=>jd 1 [6]<|eB aID<|zD 1<|aP 20 fun aNP aP1 aIC=>jd 1 [6]<|eB aIC<|zD 1<|bF AP ⟨(_),pZ,(_),nz,(_),ny⟩ ⟨dR eA qB D6,dR dw qB H8,dR dv qB BU⟩ Nat.zero_lt_one [6,2,1,0,7,8,9,10] (Sub.refl _)
    refine jn fun rD=>dW aIQ (zN 1 9)<|aP 3 fun aNO aP0 aIB=>jn fun A0=>dW aIB (zN 1 10)<|aP 4 fun aNN aPZ aIA=>cH aS A0 ((K.before.length:Int)-n) 4 0 hE.2.2.1.1 rfl rfl (by simp only[List.length_map];omega) (fun za y9 pZ eA=>?_)
    refine eW aIA [[4],[4]]<|zD 1<|aP 9 fun aNM aPY aIz=>cH aS rD ((K.after.length:Int)-n) 5 2 hE.2.2.1.2.1 rfl rfl (by simp only[List.length_map];omega) (fun r5 rY nz dw=>?_)
    refine eW aIz [[5]]<|aP 14 fun aNL aPX aIy=>cH aS pn m 6 4 hE.2.2.1.2.2 rfl rfl (by simp only[List.length_map];omega) (fun rZ rX ny dv=>?_)
    refine eW aIy []<|aP 16 fun aNK aPW aIx=>jd 1 [6]<|eB aIx<|zD 1<|aP 18 fun aNJ aPV aIw=>jd 1 [6]<|eB aIw<|zD 1<|aP 20 fun aNI aPU aIv=>jd 1 [6]<|eB aIv<|zD 1<|bF AP ⟨(_),pZ,(_),nz,(_),ny⟩ ⟨dR eA qB D6,dR dw qB H8,dR dv qB BU⟩ Nat.zero_lt_one [6,2,1,0,7,8,9,10] (Sub.refl _)
   refine js 259 ((decide (lw <0))||(decide (((((K.before.length:Int)-n)+((K.after.length:Int)-n))+m) <lw))) (fun azm=>?_) (fun azm=>?_)
   ·
    try simp only[zB] at azm
    refine jd 6 [0]<|bF aJC ((((K.before.length:Int)-n)+((K.after.length:Int)-n))+m) (by rw[E9 hTn,aGl,←hE.2.1.2];split<;>omega) Nat.zero_lt_one (zN 0 8) (Sub.refl _)
   try simp only[zB] at azm
   refine zD 2<|bF aJC lw (by rw[E9 hTn,aGl,←hE.2.1.2];split<;>omega) Nat.zero_lt_one (zN 0 8) (Sub.refl _)
  refine zD 4<|zW ((i:Int)+1)<|zD 2<|bF apK (⟨i+1,T,al,lw,vG,LG,vN,LN,vM,LM,Z⟩) ⟨⟨by dsimp only;omega,by dsimp only;rw[bZ,hE.1.2,List.take_of_length_le (by omega)]⟩,hE.2⟩ (by dsimp only;omega) (zN 0 8) D7
 refine zD 3 ?_
 have yt:i=(ax K).length:=by rw[ax,List.length_map];omega
 refine jd 2 [0] ?_
 obtain⟨aCh,aB3,aHS⟩:=hA.2.1.form
 subst aHS
 obtain⟨aCg,aB2,aHR⟩:=hD.2.2.1.1.form
 subst aHR
 obtain⟨aCf,aB1,aHQ⟩:=hD.2.2.1.2.1.form
 subst aHQ
 obtain⟨aCe,aB0,ai0⟩:=hD.2.2.1.2.2.form
 subst ai0
 refine jd 4 [6]<|aN q0.a.a.a (.tuple ⟨[.agg ⟨[zI al,(.slice aCh (Xv).length aB3),(.slice aCg (((aW K T).map fun x=>x.gone)).length aB2),(.slice aCf (((aW K T).map fun x=>x.new)).length aB1),(.slice aCe (((aW K T).map fun x=>x.af)).length aB0),zI lw]⟩,.bool true]⟩) [6] [5,4,1,2,3] (LX++(Z++(LG++(LN++LM)))) ((px.trans tY).trans BX) ⟨_,_,rfl,rfl,_,_,_,_,al,lw,rfl,anj (gF hA.2.1) (gF hD.2.2.1.1) (gF hD.2.2.1.2.1) (gF hD.2.2.1.2.2),by rw[hD.2.1.1,hD.1.2,yt],by rw[hD.2.1.2,hD.1.2,yt],fun aF hk=>by rw[←yt,←hD.1.2];exact⟨⟨Xv,hA.2.1.jR hk.left,hD.2.2.2.slr aF hk.right.left⟩,hD.2.2.1.1.jR hk.right.right.left,hD.2.2.1.2.1.jR hk.right.right.right.left,hD.2.2.1.2.2.jR hk.right.right.right.right⟩⟩
theorem Cz(hC:kg K):(aW K (bZ K (ax K) (ax K).length)).Perm (db K (bw K) (bV K.gone K.new K.af) (ax K)):=T6 hC.facts.1 hC.before.1 hC.facts.2 _ _
theorem aLn(hC:kg K):(aW K (bZ K (ax K) (ax K).length)).length=cZ K:=(Cz hC).length_eq
theorem ady(hC:kg K){zs:List aj}{m e:Int}(hz:zs.Perm (db K (bw K) (fun _=>true) (ax K)))(h:(zs=[]∧m=0∧e=9)∨(zs≠[]∧m=iB (zs.map nC)∧e=0)):
 (iL (bZ K (ax K) (ax K).length) <0∧e=9)∨(0≤iL (bZ K (ax K) (ax K).length)∧e=0∧m=iL (bZ K (ax K) (ax K).length)):=by
 have hp:=T6 hC.facts.1 hC.before.1 hC.facts.2 (fun _=>true) (ax K)
 rw[List.filter_eq_self.2 fun _ _=>rfl] at hp
 have hn:=Jw hC.facts.1 hC.before.1 hC.facts.2 (rows:=ax K) (ax K).length
 have hzp:=hz.trans hp.symm
 rcases h with ⟨h,_,e9⟩| ⟨h,hm,e0⟩
 ·left
  refine⟨(DW hn).2 ?_,e9⟩
  rw[h] at hzp;exact hzp.symm.eq_nil
 right
 have dQ:bZ K (ax K) (ax K).length≠[]:=fun e=>h (by rw[e] at hzp;exact hzp.eq_nil)
 have hl:iL (bZ K (ax K) (ax K).length)=iB ((bZ K (ax K) (ax K).length).map nC):=by rw[iL,if_neg dQ]
 refine⟨Int.not_lt.1 fun cO=>dQ ((DW hn).1 cO),e0,?_⟩
 rw[hm,hl]
 exact ym (hzp.map _) (yn h)
theorem PB{T:List aj}(hj:j <K.after.length):tmC T (QO K j) i=(az T).c i j:=by
 rw[QO,if_neg (by omega)];rfl
theorem abU{rows:List bx}{r:Value}{Y:Cells}(h:∃zs v e,zs.Perm (db K (bw K) (bV K.gone K.new K.af) rows)∧r= .tuple ⟨[v,zI e]⟩∧((zs=[]∧v= zS∧e=9∧Y=[])∨(zs≠[]∧e=0∧∀aF,Knows aF Y→LL aF v (lB (az zs) K.after.length K.before.length)))):∃zs v e W,zs.Perm (db K (bw K) (bV K.gone K.new K.af) rows)∧r= .tuple ⟨[v,zI e]⟩∧(∀aF,Knows aF Y→LL aF v W)∧((zs=[]∧W=[]∧e=9)∨(zs≠[]∧W=lB (az zs) K.after.length K.before.length∧e=0)):=by
 obtain⟨zs,v,e,hz,rfl,⟨h1,rfl,rfl,rfl⟩| ⟨h1,rfl,hL⟩⟩:=h
 ·exact⟨zs,_,_,[],hz,rfl,fun aF hk=>⟨[],(aA.nil 1 22 gL).jR hk,.nil⟩,.inl ⟨h1,rfl,rfl⟩⟩
 exact⟨zs,_,_,_,hz,rfl,hL,.inr ⟨h1,rfl,rfl⟩⟩
theorem Vf{K:aE}{zs ys:List aj}{f:aj→Int}(h1:zs.Perm ys){ws:List aj}(h2:ws.Perm ys)(hz:zs≠[]):iB (zs.map f)=iB (ws.map f)∧lT (zs.map f)=lT (ws.map f):=⟨ym ((h1.trans h2.symm).map _) (yn hz),MD ((h1.trans h2.symm).map _) (yn hz)⟩
theorem aTi(hN:Dn ro vd xs):atj zT 4 [vd] ro (fun r Y=>r= .bool true∧Y=[]):=by
 have hN0:=hN
 obtain⟨hl,hxn⟩:=hN
 obtain⟨fU,sg,sb,eZ,rfl,uz,lA,lZ⟩:=hl
 refine aFN av (by kernel_rfl) [] bp fun fr=>zD 7<|jc (vs:=[.slice fU xs.length eZ]) [] (aZg hN0.1) ?_
 rintro _ X16 ⟨d16,rfl,ajG⟩
 refine jcG (vs:=[zP d16,zI 3,zI 2]) [0] (aZh hN0 ajG (by decide) (by decide)) ?_
 rintro _ aJ X18 cu ⟨K,l,rfl,hO,vV,hK,S6⟩
 obtain⟨v0,v1,v3,v4,v5,v6,v7,vb,va,vc,hv,rfl,_,_,_,_,_,hb,ha,hf⟩:=id hK
 obtain⟨nJ,YY,YV,nE,rfl,YW,VI,VH⟩:=hb
 obtain⟨nF,VL,VJ,nB,rfl,VK,Ul,Uk⟩:=ha
 obtain⟨lP,JK,JJ,kO,rfl,N6,CN,CM⟩:=hf
 have hC:=hO.c
 have hV:=hO.v
 have axN:=hO.Az
 have S3:=hV.before.1
 have KJ:=hV.after.1
 refine jn fun b3=>jsx 0 b3 0 zO [v0,v1,.slice va 0 vc,v3,v4,v5,.slice nJ K.before.length nE,.slice nF K.after.length nB,zI K.gone,zI K.new,zI K.af,.slice lP K.facts.length kO] 38 hK.L.all rfl<|jd 4 [0]<|jc (vs:=[.agg ⟨[v0,v1,.slice va 0 vc,v3,v4,v5,.slice nJ K.before.length nE,.slice nF K.after.length nB,zI K.gone,zI K.new,zI K.af,.slice lP K.facts.length kO]⟩]) [] (amN hK hC hV) ?_
 rintro _ YG ⟨vt,vg,vn,vo,al,lw,rfl,aUw,aW8,aVv,hG9⟩
 refine zD 3<|jn fun b4=>jsx 0 b4 0 [zI 0,zS,zS,zS,zS,zI 0] [zI al,vt,vg,vn,vo,zI lw] 55 (List.all_eq_true.1 aUw) rfl<|jd 5 [2]<|GF (vs:=[.agg ⟨[v0,v1,.slice va 0 vc,v3,v4,v5,.slice nJ K.before.length nE,.slice nF K.after.length nB,zI K.gone,zI K.new,zI K.af,.slice lP K.facts.length kO]⟩]) [] (fun _ _ h=>h) (Si (K:=K) hK hC hV) ?_
 rintro _ _ ⟨rfl,rfl⟩
 refine jg 0 []<|jd 9 [2]<|GF (vs:=[.agg ⟨[v0,v1,.slice va 0 vc,v3,v4,v5,.slice nJ K.before.length nE,.slice nF K.after.length nB,zI K.gone,zI K.new,zI K.af,.slice lP K.facts.length kO]⟩]) [] (fun _ _ h=>h) (ZE hK hC hV) ?_
 rintro _ _ ⟨zsL,mL,eL,hzL,rfl,rfl,O5⟩
 refine jg 0 []<|jd 9 [2]<|GF (vs:=[.agg ⟨[v0,v1,.slice va 0 vc,v3,v4,v5,.slice nJ K.before.length nE,.slice nF K.after.length nB,zI K.gone,zI K.new,zI K.af,.slice lP K.facts.length kO]⟩]) [] (fun _ _ h=>h) (((aoy hK hV (kM hC) (tt hK hC hV) I5).mono fun _ _ h=>abU h)) ?_
 rintro _ YP ⟨zsP,vP,eP,WP,hzP,rfl,hP9,hPe⟩
 refine zD 5<|jf [2,0] (YG++YP) (fun ro4 mI Im=>?_)
 obtain⟨⟨Xv,htX,haX⟩,hgX,hnX,hoX⟩:=hG9 _ (Knows.left Im)
 obtain⟨esQ,htQ,haQ⟩:=hP9 _ (Knows.right Im)
 obtain⟨auZ,bhb,bg9,anw,rfl,bha,aRm,aRl⟩:=htX
 obtain⟨afK,aRL,aRH,afJ,rfl,aRJ,aRK,aRI⟩:=hgX
 obtain⟨afI,aRF,aRB,afH,rfl,aRD,aRE,aRC⟩:=hnX
 obtain⟨afG,aRA,aRw,afF,rfl,aRy,aRz,aRx⟩:=hoX
 obtain⟨afE,aRr,aRn,afD,rfl,aRp,aRq,aRo⟩:=htQ
 replace hK:=hK.up mI
 have MU:=aLn hC
 have ayI:al=(cZ K:Int):=by rw[aW8,MU]
 have aVw:=ady hC hzL O5
 rw[←aVv] at aVw
 have hXl:=haX.len
 rw[sW,List.length_map,List.length_range] at hXl
 have hQl:=haQ.len
 have hnP:zsP.length=cZ K:=hzP.length_eq
 have hqP:(zsP.length=0∧WP.length=0∧eP=9)∨(0 <zsP.length∧eP=0):=by rcases hPe with ⟨h1,h2,h3⟩| ⟨h1,_,h3⟩;exact .inl ⟨by rw[h1];rfl,by rw[h2];rfl,h3⟩;exact .inr ⟨List.length_pos_iff.2 h1,h3⟩
 have hTL:(aW K (bZ K (ax K) (ax K).length)).length≤1250:=by rw[MU];exact auh hC hV
 have hPL:=tP (az zsP) (w:=K.after.length) (by omega) K.before.length
 refine zD 3<|GD [1,1,1,1,1,1,0,1] [] (fun(zz:Nat)=>[(2,.bool false),(3,zP b3),(4,zP b4),(6,zI (cZ K:Int)),(10,.slice afE esQ.length afD),(11,zI eP),(79,.bool false)]) (fun zz=>[.b b4 (.cells ⟨[zI al,.slice auZ Xv.length anw,.slice afK (((aW K (bZ K (ax K) (ax K).length)).map fun x=>x.gone).length) afJ,.slice afI (((aW K (bZ K (ax K) (ax K).length)).map fun x=>x.new).length) afH,.slice afG (((aW K (bZ K (ax K) (ax K).length)).map fun x=>x.af).length) afF,zI lw]⟩ 55 (0,0)),.b b3 (.cells ⟨[v0,v1,.slice va 0 vc,v3,v4,v5,.slice nJ K.before.length nE,.slice nF K.after.length nB,zI K.gone,zI K.new,zI K.af,.slice lP K.facts.length kO]⟩ 38 (0,0)),.l X18,.l fr]) (fun zz=>True) ?_ (fun K1 bP=>?_)
 ·
  rintro zq hJ rest
  refine zD 8<|zJ 81 ((cZ K:Int)=0) (fun h5=>?_) fun h5=>?_
  ·
   refine zD 6<|js 84 (decide (eP=9)) (fun h6=>?_) (fun h6=>?_)
   ·
    have S9:=h6
    replace S9:=of_decide_eq_true S9
    refine zD 5<|js 89 (decide ((esQ.length:Int)=0)) (fun h7=>?_) (fun h7=>?_)
    ·
     have h7g:=h7
     replace h7g:=of_decide_eq_true h7g
     refine GF [] (fun _ _ h=>h) (YQ) ?_
     rintro _ _ ⟨rfl,rfl⟩
     refine jg 0 []<|zD 4<|Qd qC.a.a (.bool true) [3] [] (cu.trans mI) ⟨rfl,rfl⟩
    have h7g:=h7
    replace h7g:=of_decide_eq_false h7g
    exfalso;omega
   have S9:=h6
   replace S9:=of_decide_eq_false S9
   exfalso;omega
  refine zD 12<|my<|my<|dH [1,1,1,1,1,1,1,1,1,0,1,0,0] [] (fun(zz:Nat×Value×Cells×(List Value)×Cells)=>[(2,.bool false),(3,zP b3),(4,zP b4),(10,.slice afE esQ.length afD),(11,zI eP),(12,zz.2.1),(13,zI (zz.1:Int))]) (fun zz=>[.l zz.2.2.1,.l zz.2.2.2.2,.b b4 (.cells ⟨[zI al,.slice auZ Xv.length anw,.slice afK (((aW K (bZ K (ax K) (ax K).length)).map fun x=>x.gone).length) afJ,.slice afI (((aW K (bZ K (ax K) (ax K).length)).map fun x=>x.new).length) afH,.slice afG (((aW K (bZ K (ax K) (ax K).length)).map fun x=>x.af).length) afF,zI lw]⟩ 55 (0,0)),.b b3 (.cells ⟨[v0,v1,.slice va 0 vc,v3,v4,v5,.slice nJ K.before.length nE,.slice nF K.after.length nB,zI K.gone,zI K.new,zI K.af,.slice lP K.facts.length kO]⟩ 38 (0,0)),.l X18,.l fr]) (fun zz=>(zz.1≤K.before.length∧zz.2.2.2.1.length=(lB (az (aW K (bZ K (ax K) (ax K).length))) K.after.length zz.1).length)∧aA zz.2.1 1 22 gL zz.2.2.2.1 zz.2.2.1∧∀aF,Knows aF zz.2.2.2.2→dc (fun w l=>bJ aF w 1 aS l) zz.2.2.2.1 (lB (az (aW K (bZ K (ax K) (ax K).length))) K.after.length zz.1)) (fun zz=>K.before.length-zz.1) (⟨0,zS,[],[],[]⟩) ⟨⟨Nat.zero_le _,rfl⟩,aA.nil _ _ _,fun _ _=> .nil⟩ [1,0,2,3,4,5] ?_
  rintro⟨i,vO,LO,es,Z⟩ hI K2 lL rest
  dsimp only at hI
  have hil:=tP (az (aW K (bZ K (ax K) (ax K).length))) (w:=K.after.length) (by omega) i
  refine jd 9 [3]<|zJ 96 ((i:Int) <(K.before.length:Int)) (fun h8=>?_) fun h8=>?_
  ·
   refine zD 9<|dH [1,1,1,1,1,1,1,1,1,0,1,0,0,1,0,0,1,0,0] [K2] (fun(zz:Nat×Value×Cells×(List Value)×Cells)=>[(2,.bool false),(3,zP b3),(4,zP b4),(10,.slice afE esQ.length afD),(11,zI eP),(12,zz.2.1),(13,zI (i:Int)),(14,zI (zz.1:Int))]) (fun zz=>[.l zz.2.2.1,.l zz.2.2.2.2,.b b4 (.cells ⟨[zI al,.slice auZ Xv.length anw,.slice afK (((aW K (bZ K (ax K) (ax K).length)).map fun x=>x.gone).length) afJ,.slice afI (((aW K (bZ K (ax K) (ax K).length)).map fun x=>x.new).length) afH,.slice afG (((aW K (bZ K (ax K) (ax K).length)).map fun x=>x.af).length) afF,zI lw]⟩ 55 (0,0)),.b b3 (.cells ⟨[v0,v1,.slice va 0 vc,v3,v4,v5,.slice nJ K.before.length nE,.slice nF K.after.length nB,zI K.gone,zI K.new,zI K.af,.slice lP K.facts.length kO]⟩ 38 (0,0)),.l X18,.l fr]) (fun zz=>(zz.1≤K.after.length∧zz.2.2.2.1.length=((lB (az (aW K (bZ K (ax K) (ax K).length))) K.after.length i)++(kP (az (aW K (bZ K (ax K) (ax K).length))) i zz.1)).length)∧aA zz.2.1 1 22 gL zz.2.2.2.1 zz.2.2.1∧∀aF,Knows aF zz.2.2.2.2→dc (fun w l=>bJ aF w 1 aS l) zz.2.2.2.1 ((lB (az (aW K (bZ K (ax K) (ax K).length))) K.after.length i)++(kP (az (aW K (bZ K (ax K) (ax K).length))) i zz.1))) (fun zz=>K.after.length-zz.1) (⟨0,vO,LO,es,Z⟩) ⟨⟨Nat.zero_le _,by simpa [kP] using hI.1.2⟩,hI.2.1,by simpa [kP] using hI.2.2⟩ (zN 0 6) ?_
   rintro⟨j,vO,LO,es,Z⟩ hJ K3 J0 rest
   dsimp only at hJ
   have hjl:=yh (az (aW K (bZ K (ax K) (ax K).length))) i j
   have Uy:=hJ.1.2
   rw[List.length_append] at Uy
   refine jd 9 [3]<|zJ 103 ((j:Int) <(K.after.length:Int)) (fun h9=>?_) fun h9=>?_
   ·
    refine jd 9 [2] ?_
    obtain⟨bf2,ah0⟩:=zG Xv i
    refine fK anw 1 aRm ah0 ?_
    obtain⟨aFA,aHu,aYI⟩:=haX.get ah0
    obtain S1:=kN aHu
    obtain aMR:aFA.length=K.after.length+1:=by rw[S1,kp,List.length_map,List.length_range]
    obtain⟨bcF,bcE,bcC,aEF,rfl,bcD,aEE,aED⟩:=aYI
    refine jl 0 (aRl _ _ ah0)<|zD 1 ?_
    obtain⟨aOO,zg⟩:=zG aFA j
    refine fK aEF 1 aEE zg<|jl 0 (aED _ _ zg)<|zD 2<|zJ 114 (aOO>0) (fun Bb=>?_) fun Bb=>?_
    ·
     refine zD 5<|jn fun adp=>jn fun aZM=>cH gL aZM (.slice (some ⟨adp,0,none⟩) 2 2:Value) 2 0 hJ.2.1 rfl rfl (by omega) fun aCj aB5 baE ao9=>zD 4<|zW ((j:Int)+1)<|zD 2<|zV J0 (⟨j+1,(.slice aCj ((es++[(.slice (some ⟨adp,0,none⟩) 2 2:Value)])).length aB5),baE,(es++[(.slice (some ⟨adp,0,none⟩) 2 2:Value)]),Z++[(adp,.cells ⟨[zI (i:Int),zI (j:Int)]⟩ 3 (0,0))]⟩) ⟨⟨by dsimp only;omega,by dsimp only;rw[Gw (show (az (aW K (bZ K (ax K) (ax K).length))).c i j>0 from by rw[←PB (K:=K) (by omega),←kN (f:=fun c=>tmC (aW K (bZ K (ax K) (ax K).length)) (QO K c) i) (by rw[S1] at zg;exact zg)];omega),←List.append_assoc];simp only[zM] at*;omega⟩,ao9,fun aF hk=>by dsimp only;rw[Gw (show (az (aW K (bZ K (ax K) (ax K).length))).c i j>0 from by rw[←PB (K:=K) (by omega),←kN (f:=fun c=>tmC (aW K (bZ K (ax K) (ax K).length)) (QO K c) i) (by rw[S1] at zg;exact zg)];omega),←List.append_assoc];exact(hJ.2.2 aF hk.left).snoc (bX (enc:=aS) (T:=3) [(i:Int),(j:Int)] (hk.right _ (.head _)) (fun _ _=>rfl))⟩ [[0],[3,2],[4],[5],[6],[7]]
    refine zD 4<|zW ((j:Int)+1)<|zD 2<|zY J0 (⟨j+1,vO,LO,es,Z⟩) ⟨⟨by dsimp only;omega,by dsimp only;rw[Gx (show ¬(az (aW K (bZ K (ax K) (ax K).length))).c i j>0 from by rw[←PB (K:=K) (by omega),←kN (f:=fun c=>tmC (aW K (bZ K (ax K) (ax K).length)) (QO K c) i) (by rw[S1] at zg;exact zg)];omega)];exact hJ.1.2⟩,hJ.2.1,by dsimp only;rw[Gx (show ¬(az (aW K (bZ K (ax K) (ax K).length))).c i j>0 from by rw[←PB (K:=K) (by omega),←kN (f:=fun c=>tmC (aW K (bZ K (ax K) (ax K).length)) (QO K c) i) (by rw[S1] at zg;exact zg)];omega)];exact hJ.2.2⟩ [0,1,2,3,4,5]
   refine zD 4<|zW ((i:Int)+1)<|zD 2<|zY lL (⟨i+1,vO,LO,es,Z⟩) ⟨⟨by dsimp only;omega,by have h:=hJ.1.2;rwa[show j=K.after.length by omega] at h⟩,hJ.2.1,by have h:=hJ.2.2;rwa[show j=K.after.length by omega] at h⟩ [0,1,2,3,4,5]
  refine jd 5 [3]<|GF (vs:=[.agg ⟨[v0,v1,.slice va 0 vc,v3,v4,v5,.slice nJ K.before.length nE,.slice nF K.after.length nB,zI K.gone,zI K.new,zI K.af,.slice lP K.facts.length kO]⟩]) [] (fun _ _ h=>h) (awm hK hV (kM hC) (tt hK hC hV)) ?_
  rintro _ _ ⟨z1,ga1,gb1,ge1,hz1,rfl,rfl,n9⟩
  refine jg 0 []<|zD 3<|jn fun GR=>jd 6 [0,4]<|GF (vs:=[.agg ⟨[v0,v1,.slice va 0 vc,v3,v4,v5,.slice nJ K.before.length nE,.slice nF K.after.length nB,zI K.gone,zI K.new,zI K.af,.slice lP K.facts.length kO]⟩]) [] (fun _ _ h=>h) (aFG hK hV (kM hC) (tt hK hC hV)) ?_
  rintro _ _ ⟨z2,ga2,gb2,ge2,hz2,rfl,rfl,GM⟩
  refine jg 0 []<|zD 3<|jn fun b17=>jd 6 [0,5]<|GF (vs:=[.agg ⟨[v0,v1,.slice va 0 vc,v3,v4,v5,.slice nJ K.before.length nE,.slice nF K.after.length nB,zI K.gone,zI K.new,zI K.af,.slice lP K.facts.length kO]⟩]) [] (fun _ _ h=>h) (aho hK hV (kM hC) (tt hK hC hV)) ?_
  rintro _ _ ⟨z3,ga3,gb3,ge3,hz3,rfl,rfl,he3⟩
  refine jg 0 []<|zD 3<|jn fun J8=>jd 2 [0]<|jf [3,4] (LO++Z) (fun aDo tY acD=>?_)
  have htD:=hI.2.1.jR (Knows.left acD)
  obtain⟨wU,aDx,aDv,wo,rfl,aDw,au1,au0⟩:=htD
  have haD:=hI.2.2 _ (Knows.right acD)
  have hib:i=K.before.length:=by omega
  rw[hib] at haD
  have hDl:=haD.len
  obtain⟨y1,ya1,yb1,ye1⟩:z1≠[]∧ga1=iB (z1.map fun x=>x.gone)∧gb1=lT (z1.map fun x=>x.gone)∧ge1=0:=by rcases n9 with ⟨h,_⟩|h;exfalso;have h3:=hz1.length_eq;rw[h] at h3;have h4:cZ K=0:=h3.symm;omega;exact h
  have yc1:=Vf (K:=K) (f:=fun x=>x.gone) hz1 (Cz hC) y1
  rw[←ya1,←yb1] at yc1
  obtain⟨y2,ya2,yb2,ye2⟩:z2≠[]∧ga2=iB (z2.map fun x=>x.new)∧gb2=lT (z2.map fun x=>x.new)∧ge2=0:=by rcases GM with ⟨h,_⟩|h;exfalso;have h3:=hz2.length_eq;rw[h] at h3;have h4:cZ K=0:=h3.symm;omega;exact h
  have yc2:=Vf (K:=K) (f:=fun x=>x.new) hz2 (Cz hC) y2
  rw[←ya2,←yb2] at yc2
  obtain⟨y3,ya3,yb3,ye3⟩:z3≠[]∧ga3=iB (z3.map fun x=>x.af)∧gb3=lT (z3.map fun x=>x.af)∧ge3=0:=by rcases he3 with ⟨h,_⟩|h;exfalso;have h3:=hz3.length_eq;rw[h] at h3;have h4:cZ K=0:=h3.symm;omega;exact h
  have yc3:=Vf (K:=K) (f:=fun x=>x.af) hz3 (Cz hC) y3
  rw[←ya3,←yb3] at yc3
  have aXx:WP=lB (az (aW K (bZ K (ax K) (ax K).length))) K.after.length K.before.length∧eP=0:=by rcases hPe with ⟨h,_⟩| ⟨_,h,h2⟩;exfalso;rw[h] at hnP;simp at hnP;omega;exact⟨h.trans (by rw[I8 (hzP.trans (Cz hC).symm)]),h2⟩
  obtain⟨hWP,heP⟩:=aXx
  have bkW:=congrArg List.length hWP
  have bk7:=tP (az (aW K (bZ K (ax K) (ax K).length))) (w:=K.after.length) (by omega) K.before.length
  refine zD 6<|js 2 (decide (eP=0)) (fun IE=>?_) (fun IE=>?_)
  ·
   have ID:=IE
   replace ID:=of_decide_eq_true ID
   refine zD 4<|js 6 (decide (ge1=0)) (fun xz=>?_) (fun xz=>?_)
   ·
    have xy:=xz
    replace xy:=of_decide_eq_true xy
    refine zD 4<|js 10 (decide (ge2=0)) (fun Ga=>?_) (fun Ga=>?_)
    ·
     have IC:=Ga
     replace IC:=of_decide_eq_true IC
     refine zD 4<|js 14 (decide (ge3=0)) (fun h17=>?_) (fun h17=>?_)
     ·
      have xw:=h17
      replace xw:=of_decide_eq_true xw
      refine zD 2<|jp (vs:=[.slice afE esQ.length afD,.slice wU es.length wo]) [] [] (fun aJ hs hZ=>(show dG _ _ _ _ (.bool true) from by have:=akP (((show bJ _ _ _ _ _ from ⟨afE,aRr,aRn,afD,rfl,aRp,aRq,aRo⟩).up tY).up hs) ((show bJ _ _ _ _ _ from ⟨wU,aDx,aDv,wo,rfl,aDw,au1,au0⟩).up hs) (haQ.imp fun _ _ h=>h.up (tY.trans hs)) (haD.imp fun _ _ h=>h.up (hs)) (by omega) (by omega) (fun l hl=>by rw[hWP] at hl;rw[DD _ _ _ l hl];decide) (fun l hl=>by rw[DD _ _ _ l hl];decide);rwa[hWP,Nh] at this)) ?_
      refine jd 5 [2,3]<|jp (vs:=[.slice afK (((aW K (bZ K (ax K) (ax K).length)).map fun x=>x.gone).length) afJ]) [] [] (fun aJ hs hZ=>NI (((show bJ _ _ _ _ _ from ⟨afK,aRL,aRH,afJ,rfl,aRJ,aRK,aRI⟩).up tY).up hs) (by simp only[List.length_map];omega)) ?_
      refine jeq an3 (aay ga1 gb1 (iB ((aW K (bZ K (ax K) (ax K).length)).map fun x=>x.gone)) (lT ((aW K (bZ K (ax K) (ax K).length)).map fun x=>x.gone)))<|zD 2<|js 26 (ga1==(iB ((aW K (bZ K (ax K) (ax K).length)).map fun x=>x.gone))&&(gb1==(lT ((aW K (bZ K (ax K) (ax K).length)).map fun x=>x.gone))&&true)) (fun KP=>?_) (fun KP=>?_)
      ·
       have y4:=KP
       try simp only[zB] at y4
       refine jd 3 [1,3]<|jp (vs:=[.slice afI (((aW K (bZ K (ax K) (ax K).length)).map fun x=>x.new).length) afH]) [] [] (fun aJ hs hZ=>NI (((show bJ _ _ _ _ _ from ⟨afI,aRF,aRB,afH,rfl,aRD,aRE,aRC⟩).up tY).up hs) (by simp only[List.length_map];omega)) ?_
       refine jeq an3 (aay ga2 gb2 (iB ((aW K (bZ K (ax K) (ax K).length)).map fun x=>x.new)) (lT ((aW K (bZ K (ax K) (ax K).length)).map fun x=>x.new)))<|zD 2<|js 33 (ga2==(iB ((aW K (bZ K (ax K) (ax K).length)).map fun x=>x.new))&&(gb2==(lT ((aW K (bZ K (ax K) (ax K).length)).map fun x=>x.new))&&true)) (fun M1=>?_) (fun M1=>?_)
       ·
        have Te:=M1
        try simp only[zB] at Te
        refine jd 3 [0,3]<|jp (vs:=[.slice afG (((aW K (bZ K (ax K) (ax K).length)).map fun x=>x.af).length) afF]) [] [] (fun aJ hs hZ=>NI (((show bJ _ _ _ _ _ from ⟨afG,aRA,aRw,afF,rfl,aRy,aRz,aRx⟩).up tY).up hs) (by simp only[List.length_map];omega)) ?_
        refine jeq an3 (aay ga3 gb3 (iB ((aW K (bZ K (ax K) (ax K).length)).map fun x=>x.af)) (lT ((aW K (bZ K (ax K) (ax K).length)).map fun x=>x.af)))<|zD 2<|js 40 (ga3==(iB ((aW K (bZ K (ax K) (ax K).length)).map fun x=>x.af))&&(gb3==(lT ((aW K (bZ K (ax K) (ax K).length)).map fun x=>x.af))&&true)) (fun Xe=>?_) (fun Xe=>?_)
        ·
         have KO:=Xe
         try simp only[zB] at KO
         refine aP 41 fun sR sX qZ=>GF [] (fun _ _ h=>h) (YQ) ?_
         rintro _ _ ⟨rfl,rfl⟩
         refine jg 0 []<|dW qZ (zN 0 7)<|zD 4<|Qd qC.a.a.a (.bool true) [6] [] ((cu.trans mI).trans tY) ⟨rfl,rfl⟩
        have KO:=Xe
        try simp only[zB] at KO
        exfalso;simp[yc3] at KO
       have Te:=M1
       try simp only[zB] at Te
       exfalso;simp[yc2] at Te
      have y4:=KP
      try simp only[zB] at y4
      exfalso;simp[yc1] at y4
     have xw:=h17
     replace xw:=of_decide_eq_false xw
     exfalso;omega
    have IC:=Ga
    replace IC:=of_decide_eq_false IC
    exfalso;omega
   have xy:=xz
   replace xy:=of_decide_eq_false xy
   exfalso;omega
  have ID:=IE
  replace ID:=of_decide_eq_false ID
  exfalso;omega
 refine jd 14 [0]<|js 56 (!decide ((cZ K:Int)=al)) (fun GP=>?_) (fun GP=>?_)
 ·
  have IB:=GP
  replace IB:=of_decide_eq_false (by simpa using IB)
  exfalso;omega
 have IB:=GP
 replace IB:=of_decide_eq_true (by simpa using IB)
 refine jd 4 [0]<|js 60 (decide (lw <0)) (fun CZ=>?_) (fun CZ=>?_)
 ·
  have ajZ:=CZ
  replace ajZ:=of_decide_eq_true ajZ
  refine zD 5<|js 65 (!decide (eL=9)) (fun Qi=>?_) (fun Qi=>?_)
  ·
   have ajY:=Qi
   replace ajY:=of_decide_eq_false (by simpa using ajY)
   exfalso;omega
  have ajY:=Qi
  replace ajY:=of_decide_eq_true (by simpa using ajY)
  refine jd 4 [0]<|js 69 (decide (lw≥0)) (fun h25=>?_) (fun h25=>?_)
  ·
   have ajX:=h25
   replace ajX:=of_decide_eq_true ajX
   refine zD 3<|js 72 (!decide (eL=0)) (fun Td=>?_) (fun Td=>?_)
   ·
    have IA:=Td
    replace IA:=of_decide_eq_false (by simpa using IA)
    exfalso;omega
   have IA:=Td
   replace IA:=of_decide_eq_true (by simpa using IA)
   refine jd 8 [0]<|ji 79 (c:= !decide (mL=lw)) (b:=false) (by simp;omega) ?_
   exact bF bP 0 trivial Nat.zero_lt_one (zN 0 4) (Sub.refl _)
  have ajX:=h25
  replace ajX:=of_decide_eq_false ajX
  refine zD 11<|bF bP 0 trivial Nat.zero_lt_one (zN 0 4) (Sub.refl _)
 have ajZ:=CZ
 replace ajZ:=of_decide_eq_false ajZ
 refine jd 9 [0]<|js 69 (decide (lw≥0)) (fun h27=>?_) (fun h27=>?_)
 ·
  have Iz:=h27
  replace Iz:=of_decide_eq_true Iz
  refine zD 3<|js 72 (!decide (eL=0)) (fun Tc=>?_) (fun Tc=>?_)
  ·
   have Iy:=Tc
   replace Iy:=of_decide_eq_false (by simpa using Iy)
   exfalso;omega
  have Iy:=Tc
  replace Iy:=of_decide_eq_true (by simpa using Iy)
  refine jd 8 [0]<|ji 79 (c:= !decide (mL=lw)) (b:=false) (by simp;omega) ?_
  exact bF bP 0 trivial Nat.zero_lt_one (zN 0 4) (Sub.refl _)
 have Iz:=h27
 replace Iz:=of_decide_eq_false Iz
 refine zD 11<|bF bP 0 trivial Nat.zero_lt_one (zN 0 4) (Sub.refl _)
theorem HW(W:World)(hN:Dn (fun b=>W.heap[b]?) vd xs) {Post:Value→World→Prop}
 (S5:∀w:World,(∀(b:Nat) (o:Obj),W.heap[b]?=some o→w.heap[b]?=some o)→w.os=W.os→w.output=W.output→Post (.bool true) w):
 ∃N last o w' t',runNT zT (N+1) (solo (G (Frame.enter zT 4 ⟨[vd]⟩ .normal) []) W) #[]=(.ended o w',t')∧runN zT N (solo (G (Frame.enter zT 4 ⟨[vd]⟩ .normal) []) W)= .next last∧step zT last= .ended o w'∧Good zT Post last o w' t':=by
 have ha:aU ⟨fun b=>W.heap[b]?,[]⟩ W:=⟨fun _ _ h=>h,(fun _ _ h=>(by cases h)),by simp,(fun _ _ h=>(by cases h))⟩
 exact aeY ha (aTi hN _ _ _ fun v Y w ql qn uB F3=>by
  obtain⟨rfl,rfl⟩:=ql
  exact S5 w (fun b o hb=>qn.ro b o hb) uB F3)
end Go.L
