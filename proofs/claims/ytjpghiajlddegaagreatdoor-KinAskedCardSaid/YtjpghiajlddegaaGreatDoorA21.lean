/- Part 21 of the proof: a program logic, contracts, a theorem on goroutines. -/
import Derived.Test.YtjpghiajlddegaaGreatDoorA20
set_option maxRecDepth 100000
set_option linter.all false
namespace Go.L
open Go Go.Conc Go.Proofs
variable {K:aT} {l:List Value} {T R:Nat→Nat→Int} {n b:Int} {seen:List Nat} {F:Nat→Nat→Bool} {i ck q j na fc:Nat} {t:eR} {fs:List eR} {xs:List Int} {v0 v1 v3 v5 v6 v7 vb vd:Value}
def HQ:Value→Int
 | .int _ n=>n
 |_=>0
def Rj(f:P4→Int)(F:List (P4×Value)):Int:=(F.map fun x=>f x.1*HQ x.2).sum
def pk(x:aA):P4:=(x.w0,x.w1,x.w2,x.w3)
def aa9(f:P4→Int)(zs:List aA):Int:=(zs.map fun x=>f (pk x)).sum
structure CF(F:List (P4×Value))(zs:List aA):Prop where
 sum:∀f,Rj f F=aa9 f zs
 val:∀x∈F,∃n,x.2= zI n∧0≤n∧n≤zs.length
 key:∀x∈F,∃z∈zs,x.1=pk z
theorem CF.nil:CF [] []:=⟨fun _=>rfl,by simp,by simp⟩
theorem EI{κ:Type}(g:κ×Value→Int):∀ {F:List (κ×Value)} {i:Nat} {k:κ} {u v:Value},F[i]?=some (k,u)→((s9 k v F i).map g).sum=(F.map g).sum-g (k,u)+g (k,v)
 | [],_,_,_,_,h=>by simp at h
 |x::F,0,k,u,v,h=>by simp at h;subst h;simp only[s9,List.map_cons,List.sum_cons];omega
 |x::F,i+1,k,u,v,h=>by
  simp at h
  have:=EI g (v:=v) h
  simp only[s9,List.map_cons,List.sum_cons];omega
theorem u6{κ:Type}:∀ {F:List (κ×Value)} {i:Nat} {k:κ} {v:Value} {x:κ×Value},x∈s9 k v F i→x=(k,v)∨x∈F
 | [],_,_,_,_,h=>by cases h
 |y::F,0,k,v,x,h=>by
  rcases List.mem_cons.1 h with h|h
  ·exact .inl h
  exact .inr (List.mem_cons_of_mem _ h)
 |y::F,i+1,k,v,x,h=>by
  rcases List.mem_cons.1 h with h|h
  ·exact .inr (by rw[h];exact List.mem_cons_self)
  exact(u6 h).imp id (List.mem_cons_of_mem _)
theorem CF.look{F:List (P4×Value)}{zs:List aA}(h:CF F zs)(k:P4):∃n,OU (zI 0) false k F= zI n∧0≤n∧n≤zs.length:=by
 simp only[OU,lkM]
 cases hf:rI k F 0 with
 |none=>exact⟨0,rfl,by omega,by omega⟩
 |some u=>
  obtain⟨j,u⟩:=u
  have:=(qd hf).2
  exact h.val _ (List.mem_of_getElem? this)
theorem CF.upd{F F1:List (P4×Value)}{zs:List aA}{x:aA}(h:CF F zs)(h1:((∃u,rI (pk x) F 0=some u)∧F1=F)∨(rI (pk x) F 0=none∧F1=F++[(pk x,zI 0)]))(hl:OU (zI 0) false (pk x) F= zI n)(hn:0≤n∧n≤zs.length):CF (mf (pk x) (zI (n+1)) F1) (zs++[x]):=by
 have hz (f:P4→Int):aa9 f (zs++[x])=aa9 f zs+f (pk x):=by simp[aa9]
 rcases h1 with ⟨⟨⟨j,u⟩,hf⟩,rfl⟩| ⟨hf,rfl⟩
 ·have hu:=qd hf
  simp only[Nat.sub_zero] at hu
  have qp:u= zI n:=by simpa [OU,lkM,hf] using hl
  subst qp
  simp only[mf,hf]
  refine⟨fun f=>?_,fun y hy=>?_,fun y hy=>?_⟩
  ·rw[hz,←h.sum,Rj,EI _ hu.2,Rj]
   simp only[HQ,Int.mul_add,Int.mul_one];omega
  ·rcases u6 hy with rfl|hy
   ·exact⟨n+1,rfl,by omega,by simp;omega⟩
   obtain⟨m,h1,h2⟩:=h.val _ hy
   exact⟨m,h1,by omega,by simp;omega⟩
  rcases u6 hy with rfl|hy
  ·exact⟨x,by simp,rfl⟩
  obtain⟨z,h1,h2⟩:=h.key _ hy
  exact⟨z,by simp[h1],h2⟩
 have qp:n=0:=by
  have:(Value.int .i64 0)= zI n:=by simpa [OU,lkM,hf] using hl
  cases this;rfl
 subst qp
 have hs:mf (pk x) (zI (0+1)) (F++[(pk x,zI 0)])=s9 (pk x) (zI (0+1)) (F++[(pk x,zI 0)]) (0+F.length):=by
  simp only[mf,Ao (v:= zI 0) hf]
 have hg:(F++[(pk x,Value.int .i64 0)])[0+F.length]?=some (pk x,zI 0):=by simp
 rw[hs]
 refine⟨fun f=>?_,fun y hy=>?_,fun y hy=>?_⟩
 ·rw[hz,←h.sum,Rj,EI _ hg,Rj]
  simp[HQ]
 ·rcases u6 hy with rfl|hy
  ·exact⟨0+1,rfl,by omega,by simp;omega⟩
  rcases List.mem_append.1 hy with hy|hy
  ·obtain⟨m,h1,h2⟩:=h.val _ hy
   exact⟨m,h1,by omega,by simp;omega⟩
  rw[List.mem_singleton] at hy;subst hy
  exact⟨0,rfl,by omega,by omega⟩
 rcases u6 hy with rfl|hy
 ·exact⟨x,by simp,rfl⟩
 rcases List.mem_append.1 hy with hy|hy
 ·obtain⟨z,h1,h2⟩:=h.key _ hy
  exact⟨z,by simp[h1],h2⟩
 rw[List.mem_singleton] at hy;subst hy
 exact⟨x,by simp,rfl⟩
def fV(i j:Nat):Value→Int
 | .agg ⟨l⟩=>(match l[i]? with
  |some (.int _ n)=>if n=(j:Int)+1 then 1 else 0
  |_=>0)
 |_=>0
def rY(i j:Nat)(l:List MapEntry):Int:=(l.map fun e=>fV i j e.key*HQ e.val).sum
theorem aba{F:List (P4×Value)}{es:Array MapEntry}(h:sR Hr F es ck)(i j:Nat):rY i j es.toList=Rj (fun k=>fV i j (Hr k)) F:=by
 have h1:=congrArg (List.map fun p:Value×Value=>fV i j p.1*HQ p.2) h.1
 simp only[List.map_map] at h1
 unfold rY Rj
 exact congrArg List.sum h1
theorem NP(i j:Nat):∀ {l:List MapEntry} {e:MapEntry},(l.map (·.born)).Nodup→e∈l→rY i j l=fV i j e.key*HQ e.val+rY i j (l.filter fun x=> !decide (x.born=e.born))
 | [],_,_,h=>by cases h
 |x::l,e,hn,h=>by
  simp only[List.map_cons,List.nodup_cons] at hn
  rcases List.mem_cons.1 h with rfl|h
  ·have:l.filter (fun y=> !decide (y.born=e.born))=l:=by
    refine List.filter_eq_self.2 fun y hy=>?_
    have:y.born≠e.born:=fun h=>hn.1 (h▸List.mem_map_of_mem hy)
    simp[this]
   rw[List.filter_cons_of_neg (by simp),this];rfl
  have eg:x.born≠e.born:=fun k=>hn.1 (k▸List.mem_map_of_mem h)
  rw[List.filter_cons_of_pos (by simp[eg])]
  have:=NP i j hn.2 h
  simp only[rY,List.map_cons,List.sum_cons] at this ⊢
  omega
theorem Sq(es:Array MapEntry)(seen:List Nat)(b:Nat):cJ es (seen++[b])=(cJ es seen).filter fun x=> !decide (x.born=b):=by
 simp only[cJ,List.filter_filter]
 refine List.filter_congr fun x _=>?_
 simp only[List.contains_eq_mem,List.mem_append,List.mem_singleton,Bool.decide_or,Bool.not_or]
 rw[Bool.and_comm]
theorem II{F:List (P4×Value)}{es:Array MapEntry}(h:sR Hr F es ck){e:MapEntry}(he:e∈cJ es seen)(i j:Nat):rY i j (cJ es seen)=fV i j e.key*HQ e.val+rY i j (cJ es (seen++[e.born])):=by
 rw[Sq]
 exact NP i j ((List.filter_sublist.map _).nodup h.2.1) he
theorem aoi(i j:Nat)(v:Value):fV i j v=0∨fV i j v=1:=by
 unfold fV
 split<;>try exact .inl rfl
 split<;>try exact .inl rfl
 split<;>simp
theorem NO{i j:Nat}:∀ {l:List MapEntry},(∀e∈l,0≤HQ e.val)→0≤rY i j l
 | [],_=>Int.le_refl _
 |x::l,h=>by
  have h1:=NO (i:=i) (j:=j) (l:=l) fun e he=>h e (List.mem_cons_of_mem _ he)
  have h2:=h x List.mem_cons_self
  simp only[rY,List.map_cons,List.sum_cons] at h1 ⊢
  rcases aoi i j x.key with h3|h3<;>rw[h3]<;>omega
theorem aiN{F:List (P4×Value)}{zs:List aA}(h:CF F zs){es:Array MapEntry}(hE:sR Hr F es ck):∀e∈cJ es seen,0≤HQ e.val:=fun e he=>by
 have h1:e∈es.toList:=(List.mem_filter.1 he).1
 have h2:(e.key,e.val)∈es.toList.map (fun e=>(e.key,e.val)):=List.mem_map_of_mem (f:=fun e:MapEntry=>(e.key,e.val)) h1
 rw[hE.1] at h2
 obtain⟨y,h3,h4⟩:=List.mem_map.1 h2
 obtain⟨n,h5,h6,_⟩:=h.val _ h3
 simp only[Prod.mk.injEq] at h4
 rw[←h4.2,h5];exact h6
theorem Ws(x:aA)(j:Nat)(hi:i <4):fV i j (Hr (pk x))=if pI x i=(j:Int)+1 then 1 else 0:=by
 rcases Je hi with rfl|rfl|rfl|rfl<;>rfl
theorem UL{α:Type}(p:α→Prop)[DecidablePred p]:∀l:List α,(l.map fun x=>if p x then (1:Int) else 0).sum=((l.filter fun x=>decide (p x)).length:Int)
 | []=>rfl
 |x::l=>by
  rw[List.map_cons,List.sum_cons,UL p l]
  by_cases h:p x
  ·rw[if_pos h,List.filter_cons_of_pos (by simpa using h),List.length_cons];omega
  rw[if_neg h,List.filter_cons_of_neg (by simpa using h)];omega
theorem CF.total{F:List (P4×Value)}{zs:List aA}(h:CF F zs){es:Array MapEntry}(hE:sR Hr F es ck)(j:Nat)(hi:i <4):rY i j (cJ es [])=(aO zs).c i j:=by
 rw[BD,aba hE,h.sum,aa9]
 simp only[Ws _ j hi]
 exact UL (fun x=>pI x i=(j:Int)+1) zs
theorem aac{z:aA}(h:(z.w0==0&&(z.w1==0&&(z.w2==0&&(z.w3==0&&true))))=true)(i:Nat):pI z i=0:=by
 simp only[Bool.and_eq_true,beq_iff_eq] at h
 match i with
 |0=>exact h.1
 |1=>exact h.2.1
 |2=>exact h.2.2.1
 |_+3=>exact h.2.2.2.1
def DL(m:iH)(S T:Nat→Nat→Int):Prop:=∀i j,i <4→j <4→0≤m.c i j∧m.c i j+S i j=T i j
theorem DL.init{F:List (P4×Value)}{zs:List aA}(h:CF F zs){es:Array MapEntry}(hE:sR Hr F es ck):DL ⟨fun _ _=>0⟩ (fun i j=>rY i j (cJ es [])) (aO zs).c:=fun i j hi _=>⟨Int.le_refl _,by show 0+rY i j (cJ es [])=_;rw[h.total hE j hi];exact Int.zero_add _⟩
def Yl(z:aA)(n:Int)(q:Nat)(R:Nat→Nat→Int):Nat→Nat→Int:=fun i j=>(if i <q then 0 else fV i j (Hr (pk z))*n)+R i j
theorem DL.zero{m:iH}{z:aA}{n:Int}{es:Array MapEntry}{ck:Nat}{F:List (P4×Value)}{T:Nat→Nat→Int}{seen:List Nat}{e:MapEntry}(hE:sR Hr F es ck)(he:e∈cJ es seen)(hk:e.key=Hr (pk z))(hz:∀i,pI z i=0)(h:DL m (fun i j=>rY i j (cJ es seen)) T):DL m (fun i j=>rY i j (cJ es (seen++[e.born]))) T:=fun i j hi hj=>by
 have h1:=h i j hi hj
 have h2:=II hE he i j
 rw[hk,Ws z j hi,if_neg (by rw[hz];omega),Int.zero_mul,Int.zero_add] at h2
 dsimp only at h1 ⊢
 rw[h2] at h1;exact h1
theorem DL.open_{m:iH}{z:aA}{es:Array MapEntry}{F:List (P4×Value)}{e:MapEntry}(hE:sR Hr F es ck)(he:e∈cJ es seen)(hk:e.key=Hr (pk z))(hv:e.val= zI n)(h:DL m (fun i j=>rY i j (cJ es seen)) T):DL m (Yl z n 0 fun i j=>rY i j (cJ es (seen++[e.born]))) T:=fun i j hi hj=>by
 have h1:=h i j hi hj
 have h2:=II hE he i j
 rw[hk,hv] at h2
 simp only[HQ] at h2
 simp only[Yl,if_neg (Nat.not_lt_zero i)]
 dsimp only at h1
 rw[h2] at h1;exact h1
theorem DL.close{m:iH}{z:aA}(h:DL m (Yl z n 4 R) T):DL m R T:=fun i j hi hj=>by
 have h1:=h i j hi hj
 simp only[Yl,if_pos hi,Int.zero_add] at h1
 exact h1
theorem DL.skip{m:iH}{z:aA}(h:DL m (Yl z n q R) T)(hq:¬pI z q>0):DL m (Yl z n (q+1) R) T:=fun i j hi hj=>by
 have h1:=h i j hi hj
 simp only[Yl] at h1 ⊢
 by_cases e:i=q
 ·subst e
  rw[if_neg (Nat.lt_irrefl _),Ws z j hi,if_neg (by omega),Int.zero_mul] at h1
  rw[if_pos (Nat.lt_succ_self _)];exact h1
 by_cases e2:i <q
 ·rw[if_pos e2] at h1;rw[if_pos (by omega)];exact h1
 rw[if_neg e2] at h1;rw[if_neg (by omega)];exact h1
theorem DL.add{m:iH}{z:aA}(h:DL m (Yl z n q R) T)(hn:0≤n)(hq:pI z q>0)(hq4:q <4):DL (q5 m q (pI z q-1).toNat (m.c q (pI z q-1).toNat+n)) (Yl z n (q+1) R) T:=fun i j hi hj=>by
 have h1:=h i j hi hj
 simp only[Yl,q5] at h1 ⊢
 by_cases e:i=q
 ·subst e
  rw[if_neg (Nat.lt_irrefl _),Ws z j hi] at h1
  rw[if_pos (Nat.lt_succ_self _)]
  by_cases e2:j=(pI z i-1).toNat
  ·rw[if_pos (by omega)] at h1
   rw[if_pos ⟨rfl,e2⟩,←e2];omega
  rw[if_neg (by omega)] at h1
  rw[if_neg (by omega)];omega
 rw[if_neg (c:=i=q∧j=(pI z q-1).toNat) (by omega)]
 by_cases e2:i <q
 ·rw[if_pos e2] at h1;rw[if_pos (by omega)];exact h1
 rw[if_neg e2] at h1;rw[if_neg (by omega)];exact h1
theorem DL.bound{m:iH}{z:aA}(h:DL m (Yl z n q R) T)(hR:∀i j,0≤R i j)(hn:0≤n)(hi:i <4)(hj:j <4):0≤m.c i j∧m.c i j≤T i j:=by
 have h1:=h i j hi hj
 have h2:=hR i j
 simp only[Yl] at h1
 split at h1
 ·omega
 rcases aoi i j (Hr (pk z)) with h3|h3<;>rw[h3] at h1<;>omega
theorem DL.fin{m:iH}{zs:List aA}{es:Array MapEntry}(h:DL m (fun i j=>rY i j (cJ es seen)) (aO zs).c)(he:cJ es seen=[]):B1 m=B1 (aO zs):=by
 have k (i j:Nat) (hi:i <4) (hj:j <4):m.c i j=(aO zs).c i j:=by
  have:=(h i j hi hj).2
  rw[he] at this
  simpa [rY] using this
 simp only[B1,k 0 0 (by decide) (by decide),k 0 1 (by decide) (by decide),k 0 2 (by decide) (by decide),k 0 3 (by decide) (by decide),k 1 0 (by decide) (by decide),k 1 1 (by decide) (by decide),k 1 2 (by decide) (by decide),k 1 3 (by decide) (by decide),k 2 0 (by decide) (by decide),k 2 1 (by decide) (by decide),k 2 2 (by decide) (by decide),k 2 3 (by decide) (by decide),k 3 0 (by decide) (by decide),k 3 1 (by decide) (by decide),k 3 2 (by decide) (by decide),k 3 3 (by decide) (by decide)]
theorem aqv{z:aA}(h:q <4):nth [zI z.w0,zI z.w1,zI z.w2,zI z.w3] ((q:Int).toNat*1)=some (zI (pI z q)):=by
 rcases Je h with rfl|rfl|rfl|rfl<;>rfl
theorem acJ{m:iH}{a:Nat}{j:Int}(h:a <4)(k:0≤j∧j <4):nth (B1 m) (0+(a:Int).toNat*4+j.toNat*1)=some (zI (m.c a j.toNat)):=by
 obtain⟨b,rfl⟩:=Int.eq_ofNat_of_zero_le k.1
 exact D6 h (by omega)
theorem acI{m:iH}{a:Nat}{j v:Int}(h:a <4)(k:0≤j∧j <4):dB (B1 m) (0+(a:Int).toNat*4+j.toNat*1) [zI v]=B1 (q5 m a j.toNat v):=by
 obtain⟨b,rfl⟩:=Int.eq_ofNat_of_zero_le k.1
 exact ajR h (by omega)
theorem acK{m:iH}{a:Nat}{j:Int}{v:Value}(h:a <4)(k:0≤j∧j <4):Nat.ble ((0+(a:Int).toNat*4+j.toNat*1)+[v].length) (B1 m).length=true:=by
 obtain⟨b,rfl⟩:=Int.eq_ofNat_of_zero_le k.1
 exact ajS h (by omega)
theorem aST(z:aA):EqV zT 122 (v4 z.w0 z.w1 z.w2 z.w3) (v4 0 0 0 0) (z.w0==0&&(z.w1==0&&(z.w2==0&&(z.w3==0&&true)))):=Mn (aE0 (dep:=9998) (mV Tryz.typeInfo122 Tryz.underlying122 rfl rfl rfl rfl rfl rfl) mw _ _ _ _ _ _ _ _)
theorem aM6:nT zT 122:=by unfold nT;kernel_rfl
theorem OS{F F1:List (P4×Value)}{k:P4}(h1:((∃u,rI k F 0=some u)∧F1=F)∨(rI k F 0=none∧F1=F++[(k,zI 0)]))(hl:OU (zI 0) false k F= zI n):OU (zI 0) false k F1= zI n:=by
 rcases h1 with ⟨_,rfl⟩| ⟨hf,rfl⟩
 ·exact hl
 simp only[OU,lkM,Ao (v:= zI 0) hf]
 simpa [OU,lkM,hf] using hl
theorem adt{v:Value}{zs:List aA}{ro:Nat→Option Obj}(hl:bL ro v 8 cU zs)(hn:zs.length≤100000)(hp:∀x∈zs,∀q,0≤pI x q∧pI x q≤4):eI zT 47 [v] ro [] (fun r Y=>r= .agg ⟨B1 (aO zs)⟩∧Y=[]):=by
 obtain⟨fC,rj,ri,eV,rfl,tj,lB,mz⟩:=hl
 refine bI av [] [] bB<|zD 2<|jn fun b2=>zD 3<|jmk Hr fun EX L11 aew=>zD 10<|eG [1,1,0,1,0,0] [] (fun(zz:Nat×(List (P4×Value))×Cells)=>[(2,zP b2),(3,(.map (some EX))),(12,.slice fC zs.length eV),(13,zI (zs.length:Int)),(14,zI (zz.1:Int))]) (fun(zz:Nat×(List (P4×Value))×Cells)=>[.l zz.2.2,.b b2 (.cells ⟨[zI 0,zI 0,zI 0,zI 0,zI 0,zI 0,zI 0,zI 0,zI 0,zI 0,zI 0,zI 0,zI 0,zI 0,zI 0,zI 0]⟩ 112 (0,0))]) (fun(zz:Nat×(List (P4×Value))×Cells)=>zz.1≤zs.length∧jO EX Hr zz.2.1 zz.2.2∧CF zz.2.1 (zs.take zz.1)) (fun(zz:Nat×(List (P4×Value))×Cells)=>zs.length-zz.1) (⟨0,[],L11⟩) ⟨by dsimp only;omega,aew,CF.nil⟩ [0,1] ?_
 rintro⟨k,F,LM⟩ hI K1 bU rest
 dsimp only at hI
 refine zD 5<|zJ 15 ((k:Int) <(zs.length:Int)) (fun h1=>?_) fun h1=>?_
 ·
  refine zD 6 ?_
  obtain⟨AZ,oH⟩:=zG zs k
  refine iE eV 8 lB oH<|jl 0 (mz _ _ oH)<|jn fun b5=>jd 2 [0] ?_
  obtain⟨nk,hlk,hnk⟩:=hI.2.2.look (pk AZ)
  have QP:(zs.take k).length=k:=by rw[List.length_take];omega
  refine jd 4 [0]<|mO [3,5] ⟨fun z2 t3 qz=>?_,fun z5 t6 Ti=>?_,trivial⟩
  ·
   refine jlu (kv:=Hr) (F:=F) (r:=EX) (K:=122) (pk AZ) (zI 0) false [1] LM adb (fun s _ hZ=>hI.2.1.has hZ)<|bD qz [0,1,2]<|jw 3 (zI nk) hlk<|ja (nk+1) (by omega)<|aN 5 fun W8 Xj YK=>jme (kv:=Hr) (F:=F) (r:=EX) (L:=LM) 1 (pk AZ) adb mw hI.2.1 fun Fm4 bm4 cm4 Lm4 bdJ hm4=>gX YK []<|aN 6 fun W7 Xi Tg=>zD 1<|bD Tg [0,1,2]<|aN 7 fun Ek EG vw=>jes 0 (zI (nk+1)) hm4 fun Lm7 hm7=>dV vw<|zD 2<|ja ((k:Int)+1) (by omega)<|zD 2<|bO bU (⟨k+1,_,Lm7⟩) ⟨by dsimp only;omega,hm7,by dsimp only;rw[jq oH];exact hI.2.2.upd (by assumption) hlk hnk⟩ (by dsimp only;omega) [0,2] (Sub.refl _)
  refine jme (kv:=Hr) (F:=F) (r:=EX) (L:=LM) 1 (pk AZ) adb mw hI.2.1 fun Fm9 bm9 cm9 Lm9 aEa hm9=>dV Ti<|mO [3,6] ⟨fun z11 t12 LY=>?_,fun z14 t15 PD=>?_,trivial⟩
  ·
   refine jlu (kv:=Hr) (F:=Fm9) (r:=EX) (K:=122) (pk AZ) (zI 0) false [0] Lm9 adb (fun s _ hZ=>hm9.own.has hZ)<|dV LY<|jw 3 (zI nk) (OS aEa hlk)<|ja (nk+1) (by omega)<|aN 6 fun ams amO Gn=>zD 1<|bD Gn [0,1,2]<|aN 7 fun aws axm afn=>jes 0 (zI (nk+1)) hm9 fun aTT aAU=>dV afn<|zD 2<|ja ((k:Int)+1) (by omega)<|zD 2<|bO bU (⟨k+1,_,aTT⟩) ⟨by dsimp only;omega,aAU,by dsimp only;rw[jq oH];exact hI.2.2.upd (by assumption) hlk hnk⟩ (by dsimp only;omega) [0,2] (Sub.refl _)
  refine zD 1<|dV PD<|aN 3 fun awr axl afm=>jlu (kv:=Hr) (F:=Fm9) (r:=EX) (K:=122) (pk AZ) (zI 0) false [0] Lm9 adb (fun s _ hZ=>hm9.own.has hZ)<|dV afm<|jw 3 (zI nk) (OS aEa hlk)<|ja (nk+1) (by omega)<|aN 7 fun awq axk LX=>jes 0 (zI (nk+1)) hm9 fun aTS asG=>dV LX<|zD 2<|ja ((k:Int)+1) (by omega)<|zD 2<|bO bU (⟨k+1,_,aTS⟩) ⟨by dsimp only;omega,asG,by dsimp only;rw[jq oH];exact hI.2.2.upd (by assumption) hlk hnk⟩ (by dsimp only;omega) [0,2] (Sub.refl _)
 refine zD 4<|jn fun b6=>jf [1] LM (fun aZY ar6 as1=>?_)
 have hCF:CF F zs:=by have:=hI.2.2;rwa[show k=zs.length by omega,List.take_length] at this
 obtain⟨AX,HL,rfl,hE1⟩:=hI.2.1
 refine zD 5<|jmR (as1 _ (.head _)) fun r27=>jg 0 [.b r27 (uh EX HL [])]<|zD 2<|eG [1,1,1,1,0,1,0,0] [] (fun(zz:(List Nat)×iH)=>[(2,zP b2),(6,zP b6),(27,zP r27)]) (fun(zz:(List Nat)×iH)=>[.b r27 (uh EX HL zz.1),.b b6 (.cells ⟨[zI (zz.2.c 0 0),zI (zz.2.c 0 1),zI (zz.2.c 0 2),zI (zz.2.c 0 3),zI (zz.2.c 1 0),zI (zz.2.c 1 1),zI (zz.2.c 1 2),zI (zz.2.c 1 3),zI (zz.2.c 2 0),zI (zz.2.c 2 1),zI (zz.2.c 2 2),zI (zz.2.c 2 3),zI (zz.2.c 3 0),zI (zz.2.c 3 1),zI (zz.2.c 3 2),zI (zz.2.c 3 3)]⟩ 112 (0,0)),.b b2 (.cells ⟨[zI 0,zI 0,zI 0,zI 0,zI 0,zI 0,zI 0,zI 0,zI 0,zI 0,zI 0,zI 0,zI 0,zI 0,zI 0,zI 0]⟩ 112 (0,0))]) (fun(zz:(List Nat)×iH)=>DL zz.2 (fun i j=>rY i j (cJ AX zz.1)) (aO zs).c) (fun(zz:(List Nat)×iH)=>(cJ AX zz.1).length) (⟨[],⟨fun _ _=>0⟩⟩) (DL.init hCF hE1) [0,1,2] ?_
 rintro⟨seen,m⟩ hI K21 alf rest
 dsimp only at hI
 refine zD 2<|jmN (it:=r27) (kv:=Hr) (seen:=seen) 0 (as1 _ (.head _)) hE1 (fun k28 v28 e28 aBj YH asZ azZ=>?_) (fun arH=>?_)
 ·
  obtain⟨Fu,anL,aAL⟩:=hCF.val _ aBj
  obtain⟨kG,arH,hkz⟩:=hCF.key _ aBj
  dsimp only at anL hkz
  subst anL
  subst hkz
  have hpz:=hp kG arH
  have cK:=FC YH
  refine jg 0 [.b r27 (uh EX HL (seen++[e28.born]))]<|zD 8<|jmE (it:=r27) 0 (as1 _ (.head _)) hE1 YH asZ azZ<|jg 0 [.b r27 (uh EX HL (seen++[e28.born]))]<|zD 2<|jn fun b7=>jd 8 [0,0]<|jeq aM6 (aST kG)<|zD 1<|js 35 (kG.w0==0&&(kG.w1==0&&(kG.w2==0&&(kG.w3==0&&true)))) (fun h21=>?_) (fun h21=>?_)
  ·
   refine zD 2<|bO alf (⟨(seen++[e28.born]),m⟩) (hI.zero (n:=0) hE1 YH asZ (aac (by assumption))) cK [1,2,3] (Sub.refl _)
  refine jd 8 [0]<|eG [1,1,1,1,0,1,0,0,1,1,0,1,1,1,0,0] [K21] (fun(zz:Nat×iH)=>[(2,zP b2),(6,zP b6),(8,zI Fu),(27,zP r27),(36,.agg ⟨[zI kG.w0,zI kG.w1,zI kG.w2,zI kG.w3]⟩),(37,zI (zz.1:Int))]) (fun(zz:Nat×iH)=>[.b r27 (uh EX HL (seen++[e28.born])),.b b6 (.cells ⟨[zI (zz.2.c 0 0),zI (zz.2.c 0 1),zI (zz.2.c 0 2),zI (zz.2.c 0 3),zI (zz.2.c 1 0),zI (zz.2.c 1 1),zI (zz.2.c 1 2),zI (zz.2.c 1 3),zI (zz.2.c 2 0),zI (zz.2.c 2 1),zI (zz.2.c 2 2),zI (zz.2.c 2 3),zI (zz.2.c 3 0),zI (zz.2.c 3 1),zI (zz.2.c 3 2),zI (zz.2.c 3 3)]⟩ 112 (0,0)),.b b7 (.cells ⟨[zI kG.w0,zI kG.w1,zI kG.w2,zI kG.w3]⟩ 122 (0,0)),.b b2 (.cells ⟨[zI 0,zI 0,zI 0,zI 0,zI 0,zI 0,zI 0,zI 0,zI 0,zI 0,zI 0,zI 0,zI 0,zI 0,zI 0,zI 0]⟩ 112 (0,0))]) (fun(zz:Nat×iH)=>zz.1≤4∧DL zz.2 (Yl kG Fu zz.1 (fun i j=>rY i j (cJ AX (seen++[e28.born])))) (aO zs).c) (fun(zz:Nat×iH)=>4-zz.1) (⟨0,m⟩) ⟨by dsimp only;omega,hI.open_ hE1 YH asZ azZ⟩ [1,2,0,3] ?_
  rintro⟨q,m⟩ hJ K22 aD4 rest
  dsimp only at hJ
  refine zD 5<|zJ 38 ((q:Int) <4) (fun Ef=>?_) fun Ef=>?_
  ·
   refine zD 7<|jai (l:=[zI kG.w0,zI kG.w1,zI kG.w2,zI kG.w3]) (q:Int) 4 1 false (by omega) (v:= zI (pI kG q)) (show nth [_,_,_,_] _=_ from aqv (by omega))<|zD 8<|zJ 42 ((pI kG q)>0) (fun AU=>?_) fun AU=>?_
   ·
    refine zD 4<|ja ((pI kG q)-1) (by have:=hpz q;omega) ?_
    refine Jn (b:=b6) (off:=0) (len:=4) (sz:=4) (q:Int) (by omega)<|Jn (b:=b6) (off:=0+(q:Int).toNat*4) (len:=4) (sz:=1) ((pI kG q)-1) (by have:=hpz q;omega) ?_
    refine oQ (b:=b6) (off:=0+(q:Int).toNat*4+((pI kG q)-1).toNat*1) (m:=1) (vs:=[zI (m.c q (pI kG q-1).toNat)]) 0 [1] [(b6,.cells ⟨[zI (m.c 0 0),zI (m.c 0 1),zI (m.c 0 2),zI (m.c 0 3),zI (m.c 1 0),zI (m.c 1 1),zI (m.c 1 2),zI (m.c 1 3),zI (m.c 2 0),zI (m.c 2 1),zI (m.c 2 2),zI (m.c 2 3),zI (m.c 3 0),zI (m.c 3 1),zI (m.c 3 2),zI (m.c 3 3)]⟩ 112 (0,0))] (fun s _ hZ=>r8 (hZ _ (.head _)) (acJ (m:=m) (by omega) (by have:=hpz q;omega))) ?_
    refine zD 1<|ja ((m.c q (pI kG q-1).toNat)+Fu) (by have h7:=hJ.2.bound (fun i j=>NO (aiN hCF hE1)) aAL.1 (i:=q) (j:=(pI kG q-1).toNat) (by omega) (by have:=hpz q;omega);have h8:=Mu zs q (pI kG q-1).toNat;omega) ?_
    refine Jn (b:=b6) (off:=0) (len:=4) (sz:=4) (q:Int) (by omega)<|Jn (b:=b6) (off:=0+(q:Int).toNat*4) (len:=4) (sz:=1) ((pI kG q)-1) (by have:=hpz q;omega) ?_
    refine aN 10 fun awn axh Tp=>jsx 1 b6 (0+(q:Int).toNat*4+((pI kG q)-1).toNat*1) [zI (m.c 0 0),zI (m.c 0 1),zI (m.c 0 2),zI (m.c 0 3),zI (m.c 1 0),zI (m.c 1 1),zI (m.c 1 2),zI (m.c 1 3),zI (m.c 2 0),zI (m.c 2 1),zI (m.c 2 2),zI (m.c 2 3),zI (m.c 3 0),zI (m.c 3 1),zI (m.c 3 2),zI (m.c 3 3)] [zI ((m.c q (pI kG q-1).toNat)+Fu)] 112 (by intro v hv;rw[List.mem_singleton] at hv;subst hv;rfl) (acK (m:=m) (by omega) (by have:=hpz q;omega)) ?_
    refine jmw 0 [.b b6 (.cells ⟨[zI ((q5 m q (pI kG q-1).toNat (m.c q (pI kG q-1).toNat+Fu)).c 0 0),zI ((q5 m q (pI kG q-1).toNat (m.c q (pI kG q-1).toNat+Fu)).c 0 1),zI ((q5 m q (pI kG q-1).toNat (m.c q (pI kG q-1).toNat+Fu)).c 0 2),zI ((q5 m q (pI kG q-1).toNat (m.c q (pI kG q-1).toNat+Fu)).c 0 3),zI ((q5 m q (pI kG q-1).toNat (m.c q (pI kG q-1).toNat+Fu)).c 1 0),zI ((q5 m q (pI kG q-1).toNat (m.c q (pI kG q-1).toNat+Fu)).c 1 1),zI ((q5 m q (pI kG q-1).toNat (m.c q (pI kG q-1).toNat+Fu)).c 1 2),zI ((q5 m q (pI kG q-1).toNat (m.c q (pI kG q-1).toNat+Fu)).c 1 3),zI ((q5 m q (pI kG q-1).toNat (m.c q (pI kG q-1).toNat+Fu)).c 2 0),zI ((q5 m q (pI kG q-1).toNat (m.c q (pI kG q-1).toNat+Fu)).c 2 1),zI ((q5 m q (pI kG q-1).toNat (m.c q (pI kG q-1).toNat+Fu)).c 2 2),zI ((q5 m q (pI kG q-1).toNat (m.c q (pI kG q-1).toNat+Fu)).c 2 3),zI ((q5 m q (pI kG q-1).toNat (m.c q (pI kG q-1).toNat+Fu)).c 3 0),zI ((q5 m q (pI kG q-1).toNat (m.c q (pI kG q-1).toNat+Fu)).c 3 1),zI ((q5 m q (pI kG q-1).toNat (m.c q (pI kG q-1).toNat+Fu)).c 3 2),zI ((q5 m q (pI kG q-1).toNat (m.c q (pI kG q-1).toNat+Fu)).c 3 3)]⟩ 112 (0,0))] (L:=[(b6,.cells ⟨dB [zI (m.c 0 0),zI (m.c 0 1),zI (m.c 0 2),zI (m.c 0 3),zI (m.c 1 0),zI (m.c 1 1),zI (m.c 1 2),zI (m.c 1 3),zI (m.c 2 0),zI (m.c 2 1),zI (m.c 2 2),zI (m.c 2 3),zI (m.c 3 0),zI (m.c 3 1),zI (m.c 3 2),zI (m.c 3 3)] (0+(q:Int).toNat*4+((pI kG q)-1).toNat*1) [zI ((m.c q (pI kG q-1).toNat)+Fu)]⟩ 112 (0,0))]) (by rw[acI (m:=m) (by omega) (by have:=hpz q;omega)];rfl) ?_
    refine gX Tp []<|zD 2<|ja ((q:Int)+1) (by omega)<|zD 2<|bO aD4 (⟨q+1,(q5 m q (pI kG q-1).toNat (m.c q (pI kG q-1).toNat+Fu))⟩) ⟨by dsimp only;omega,hJ.2.add aAL.1 (by assumption) (by omega)⟩ (by dsimp only;omega) [1,0,2,3] (Sub.refl _)
   refine zD 3<|ja ((q:Int)+1) (by omega)<|zD 2<|bO aD4 (⟨q+1,m⟩) ⟨by dsimp only;omega,hJ.2.skip (by assumption)⟩ (by dsimp only;omega) [0,1,2,3] (Sub.refl _)
  refine zD 2<|bO alf (⟨(seen++[e28.born]),m⟩) (DL.close (z:=kG) (n:=Fu) (by have:=hJ.2;rwa[show q=4 by omega] at this)) cK [0,1,3] (Sub.refl _)
 refine jg 0 [.b r27 (uh EX HL seen)]<|jd 11 [1,2]<|aJ q0.a (.agg ⟨[zI (m.c 0 0),zI (m.c 0 1),zI (m.c 0 2),zI (m.c 0 3),zI (m.c 1 0),zI (m.c 1 1),zI (m.c 1 2),zI (m.c 1 3),zI (m.c 2 0),zI (m.c 2 1),zI (m.c 2 2),zI (m.c 2 3),zI (m.c 3 0),zI (m.c 3 1),zI (m.c 3 2),zI (m.c 3 3)]⟩) [2] [] [] ar6 ⟨_,_,rfl,rfl,by rw[←hI.fin arH],rfl⟩
theorem GO:AO:=fun hl hn hp=>adt hl hn hp
theorem Am:∀(l:List Int) (a:Int),l.foldl min a=a∨l.foldl min a∈l
 | [],_=> .inl rfl
 |y::l,a=>by
  simp only[List.foldl_cons]
  rcases Am l (min a y) with h|h
  ·rw[h]
   rcases(by omega:min a y=a∨min a y=y) with e|e
   ·exact .inl e
   rw[e];exact .inr List.mem_cons_self
  exact .inr (List.mem_cons_of_mem _ h)
theorem ON:∀ {l:List Int},l≠[]→uz l∈l
 | [],h=>absurd rfl h
 |y::l,_=>by
  show l.foldl min y∈_
  rcases Am l y with h|h
  ·rw[h];exact List.mem_cons_self
  exact List.mem_cons_of_mem _ h
theorem Jc{l m:List Int}(h:l.Perm m)(hl:l≠[]):uz l=uz m:=by
 have h1:=KY (h.mem_iff.1 (ON hl))
 have h2:=KY (h.mem_iff.2 (ON (fun e=>hl (by rw[e] at h;exact h.eq_nil))))
 omega
theorem GA:∀(l:List Int) (a:Int),a≤l.foldl max a∧∀x∈l,x≤l.foldl max a
 | [],a=>⟨Int.le_refl _,fun _ h=>(by cases h)⟩
 |y::l,a=>by
  obtain⟨h1,h2⟩:=GA l (max a y)
  refine⟨by simp only[List.foldl_cons];omega,fun x hx=>?_⟩
  rcases List.mem_cons.1 hx with rfl|hx
  ·simp only[List.foldl_cons];omega
  exact h2 x hx
theorem An:∀(l:List Int) (a:Int),l.foldl max a=a∨l.foldl max a∈l
 | [],_=> .inl rfl
 |y::l,a=>by
  simp only[List.foldl_cons]
  rcases An l (max a y) with h|h
  ·rw[h]
   rcases(by omega:max a y=a∨max a y=y) with e|e
   ·exact .inl e
   rw[e];exact .inr List.mem_cons_self
  exact .inr (List.mem_cons_of_mem _ h)
theorem Vw{l:List Int}{x:Int}(h:x∈l):x≤Bz l:=by
 cases l with
 |nil=>cases h
 |cons y l=>
  rcases List.mem_cons.1 h with rfl|h
  ·exact(GA l _).1
  exact(GA l _).2 x h
theorem OO:∀ {l:List Int},l≠[]→Bz l∈l
 | [],h=>absurd rfl h
 |y::l,_=>by
  show l.foldl max y∈_
  rcases An l y with h|h
  ·rw[h];exact List.mem_cons_self
  exact List.mem_cons_of_mem _ h
theorem Ya{l m:List Int}(h:l.Perm m)(hl:l≠[]):Bz l=Bz m:=by
 have h1:=Vw (h.mem_iff.1 (OO hl))
 have h2:=Vw (h.mem_iff.2 (OO (fun e=>hl (by rw[e] at h;exact h.eq_nil))))
 omega
theorem La{α β:Type}{f:α→β}{l:List α}(h:l≠[]):l.map f≠[]:=fun e=>h (List.map_eq_nil_iff.1 e)
abbrev fsT:List eR:=[⟨2,1,true⟩,⟨0,1,true⟩]
theorem cC(h:0≤n∧n≤4):lO (aY n):=aon (fs:=[]) h (by decide) (by simp) .nil
theorem cV:fU (aY n):=aom (fs:=[]) (by decide) (by simp)
theorem cCT:lO (CQ 2 fsT):=aon (by decide) (by decide) (by decide) (by decide)
theorem cVT:fU (CQ 2 fsT):=aom (by decide) (by decide)
theorem rT:aX (aY 2)=4:=by kernel_rfl
theorem rL:uz ((ek (aY 1) (cv (aY 1)) (fun _=>true) (fE (aY 1))).map EJ)=2:=by kernel_rfl
theorem rLn:(ek (aY 1) (cv (aY 1)) (fun _=>true) (fE (aY 1))).length=0→False:=by
 have e:Nat.beq (ek (aY 1) (cv (aY 1)) (fun _=>true) (fE (aY 1))).length 0=false:=by kernel_rfl
 intro h;rw[h] at e;cases e
theorem r1n:(ek (aY 1) (cv (aY 1)) (dC (aY 1).gone (aY 1).new (aY 1).ai) (fE (aY 1))).length=0→False:=by
 have e:Nat.beq (ek (aY 1) (cv (aY 1)) (dC (aY 1).gone (aY 1).new (aY 1).ai) (fE (aY 1))).length 0=false:=by kernel_rfl
 intro h;rw[h] at e;cases e
theorem r2n:(ek (aY 2) (cv (aY 2)) (dC (aY 2).gone (aY 2).new (aY 2).ai) (fE (aY 2))).length=0→False:=by
 have e:Nat.beq (ek (aY 2) (cv (aY 2)) (dC (aY 2).gone (aY 2).new (aY 2).ai) (fE (aY 2))).length 0=false:=by kernel_rfl
 intro h;rw[h] at e;cases e
theorem rM1:uz ((ek (aY 2) (cv (aY 2)) (dC (aY 2).gone (aY 2).new (aY 2).ai) (fE (aY 2))).map fun x=>x.ai)=0:=by kernel_rfl
theorem rM2:Bz ((ek (aY 2) (cv (aY 2)) (dC (aY 2).gone (aY 2).new (aY 2).ai) (fE (aY 2))).map fun x=>x.ai)=2:=by kernel_rfl
theorem rU:xo (aO (ek (aY 1) (cv (aY 1)) (dC (aY 1).gone (aY 1).new (aY 1).ai) (fE (aY 1)))) (((ek (aY 1) (cv (aY 1)) (dC (aY 1).gone (aY 1).new (aY 1).ai) (fE (aY 1))).length:Nat):Int) (aY 1).after.length (aY 1).before.length=[[0,0],[2,1]]:=by kernel_rfl
theorem rW:J1 (CQ 2 fsT) (fE (CQ 2 fsT))=some 1:=by kernel_rfl
theorem rL1:lV 1 4=[0]:=by kernel_rfl
theorem rA:(Qn (MK (aO (ek (aY 2) (cv (aY 2)) (dC (aY 2).gone (aY 2).new (aY 2).ai) (fE (aY 2)))) (((ek (aY 2) (cv (aY 2)) (dC (aY 2).gone (aY 2).new (aY 2).ai) (fE (aY 2))).length:Nat):Int) (aY 2).after.length (aY 2).before.length)).2.2=(2,0):=by kernel_rfl
theorem XE{ro:Nat→Option Obj}(hK:gG ro l (aY 2)):Hm zT 11 [.agg ⟨l⟩] ro [] (fun r Y=>r= .tuple ⟨[zI 4,zI 0]⟩∧Y=[]):=
 (FH hK (cC (by decide)) cV).mono fun v X h=>⟨by rw[h.1,rT];rfl,h.2⟩
theorem abB{ro:Nat→Option Obj}(hK:gG ro l (aY 1)):Hm zT 44 [.agg ⟨l⟩] ro [] (fun r Y=>r= .tuple ⟨[zI 2,zI 0]⟩∧Y=[]):=
 (akg hK (cC (by decide)) cV).mono fun v X ⟨zs,m,e,hz,hY,hr,h⟩=>by
  rcases h with ⟨h,_⟩| ⟨h,hm,he⟩
  ·exact(rLn (by rw[←hz.length_eq,h];rfl)).elim
  exact⟨by rw[hr,hm,he,Jc (hz.map EJ) (La h),rL],hY⟩
theorem aja{ro:Nat→Option Obj}(hK:gG ro l (aY 1)):Hm zT 43 [.agg ⟨l⟩] ro [] (fun r Y=>∃v,r= .tuple ⟨[v,zI 0]⟩∧∀aK,Knows aK Y→LL aK v [[0,0],[2,1]]):=
 (arn hK cV (n5 (cC (by decide))) (yI hK (cC (by decide)) cV) GO).mono fun r X ⟨zs,v,e,hz,hr,h⟩=>by
  rcases h with ⟨h,_⟩| ⟨h,he,hl⟩
  ·exact(r1n (by rw[←hz.length_eq,h];rfl)).elim
  refine⟨v,by rw[hr,he],fun aK hk=>?_⟩
  have:=hl aK hk
  rwa[GR hz,hz.length_eq,rU] at this
theorem abA{ro:Nat→Option Obj}(hK:gG ro l (aY 2)):Hm zT 21 [.agg ⟨l⟩] ro [] (fun r Y=>r= .tuple ⟨[.agg ⟨[zI 0,zI 2]⟩,zI 0]⟩∧Y=[]):=
 (arp hK cV (n5 (cC (by decide))) (yI hK (cC (by decide)) cV)).mono fun r X ⟨zs,a,b,e,hz,hY,hr,h⟩=>by
  rcases h with ⟨h,_⟩| ⟨h,ha,hb,he⟩
  ·exact(r2n (by rw[←hz.length_eq,h];rfl)).elim
  exact⟨by rw[hr,ha,hb,he,Jc (hz.map _) (La h),Ya (hz.map _) (La h),rM1,rM2],hY⟩
theorem apW{ro:Nat→Option Obj}(hK:gG ro l (aY 2)):Hm zT 15 [.agg ⟨l⟩] ro [] (fun r Y=>∃a b,r= .tuple ⟨[zI a,zI b,zI 2,zI 0]⟩∧Y=[]):=
 (azz hK cV (n5 (cC (by decide))) (yI hK (cC (by decide)) cV) GO).mono fun r X ⟨zs,a,b,w,e,hz,hY,hr,h⟩=>by
  rcases h with ⟨h,_⟩| ⟨h,ha⟩
  ·exact(r2n (by rw[←hz.length_eq,h];rfl)).elim
  rw[GR hz,hz.length_eq] at ha
  have h2:=congrArg (fun x:Int×Int×Int×Int=>x.2.2) ha
  dsimp only at h2
  rw[rA] at h2
  cases h2
  exact⟨a,b,hr,hY⟩
theorem abz{ro:Nat→Option Obj}(hK:gG ro l (CQ 2 fsT)):eI zT 9 [.agg ⟨l⟩] ro [] (fun r Y=>∃v,r= .tuple ⟨[v,zI 0]⟩∧aD v 1 3 db [0] Y):=
 Fn.mono (aq6 hK cVT (n5 cCT) (yI hK cCT cVT) (by decide)) fun en s' ⟨r,X,h1,h2,v,e,hr,h⟩=>⟨r,X,h1,h2,by
  rcases h with ⟨m,hm,ho,he⟩| ⟨hm,_⟩
  ·rw[rW] at hm;cases hm
   rw[rL1] at ho
   exact⟨v,by rw[hr,he],ho⟩
  rw[rW] at hm;cases hm⟩
theorem ac6{ro:Nat→Option Obj}{v4 vf:Value}{fa:Option Addr}(h:gG ro [v0,v1,.slice fa 0 fc,v3,v4,v5,v6,v7,zI 1,zI 1,zI n,vb] (aY n))(hf:bL ro vf 3 oK fs):gG ro [v0,v1,.slice fa 0 fc,v3,v4,v5,v6,v7,zI 1,zI 1,zI n,vf] (CQ n fs):=by
 obtain⟨w0,w1,w3,w4,w5,w6,w7,wb,ga,gc,hv,e,h1,h2,h3,h4,h5,h6,h7,_⟩:=h
 cases e
 exact⟨_,_,_,_,_,_,_,_,_,_,hv,rfl,h1,h2,h3,h4,h5,h6,h7,hf⟩
theorem NC{v4:Value}{fa fb:Option Addr}{fn fd:Nat}(h:∀v∈[v0,v1,v3,v4,v5,v6,v7,vb],single v=true):∀v∈[v0,v1,.slice fa 0 fc,v3,v4,v5,v6,v7,zI 1,zI 1,zI 2,.slice fb fn fd],single v=true:=by
 simp only[List.mem_cons,List.not_mem_nil,or_false] at h ⊢
 rintro v (rfl|rfl|rfl|rfl|rfl|rfl|rfl|rfl|rfl|rfl|rfl|rfl)<;>first|rfl|exact h _ (by simp)
theorem LL.up{ro aK:Nat→Option Obj}{v:Value}{W:List (List Int)}(h:LL ro v W)(hs:Sub ro aK):LL aK v W:=by
 obtain⟨ws,h1,h2⟩:=h
 exact⟨ws,h1.up hs,h2.imp fun _ _ k=>k.up hs⟩
theorem aEY(a b c d:Int):EqV zT 64 (.agg ⟨[zI a,zI b]⟩) (.agg ⟨[zI c,zI d]⟩) (a==c&&(b==d&&true)):=
 Mn (tP (dep:=9999) (mV Tryz.typeInfo64 Tryz.underlying64 rfl rfl rfl rfl rfl rfl) Tryz.stoodInHeld64 (.cons (by decide) (jY mw rfl) (jY mw rfl) (nQ mw _ _) (.cons (by decide) (jY mw rfl) (jY mw rfl) (nQ mw _ _) .nil)))
theorem aM5:nT zT 64:=by unfold nT;kernel_rfl
theorem Kk{ro:Nat→Option Obj}:Hm zT 14 [] ro [] (fun r Y=>r= .bool true∧Y=[]):=by
 refine H2 av [] [] bB fun fr=>zD 6<|jc (vs:=[zI 2]) [] (JU) ?_
 rintro _ Y16 ⟨l16,rfl,aRp,PD⟩
 refine jf [0] Y16 (fun AR cy ju=>?_)
 have aRZ:=aRp _ ju
 refine M8 (vs:=[(.agg ⟨l16⟩)]) [] (fun _ _ h=>h) (XE aRZ) ?_
 rintro _ _ ⟨rfl,rfl⟩
 refine jg 0 []<|zD 8<|jc (vs:=[zI 1]) [] (JU) ?_
 rintro _ Y21 ⟨l21,rfl,aRo,YM⟩
 refine jf [0] Y21 (fun ro6 kN ZO=>?_)
 have alf:=aRo _ ZO
 refine M8 (vs:=[(.agg ⟨l21⟩)]) [] (fun _ _ h=>h) (aja alf) ?_
 rintro _ Y22 ⟨v22,rfl,aPv⟩
 refine zD 5<|jf [0] Y22 (fun ro9 rz hk8=>?_)
 have aRq:=aPv _ hk8
 refine zD 3<|jc (vs:=[zI 2]) [] (JU) ?_
 rintro _ Y26 ⟨u9,rfl,aRn,Ig⟩
 refine jf [0] Y26 (fun aZ2 aAc aPJ=>?_)
 have aRY:=aRn _ aPJ
 refine M8 (vs:=[(.agg ⟨u9⟩)]) [] (fun _ _ h=>h) (abA aRY) ?_
 rintro _ _ ⟨rfl,rfl⟩
 refine jg 0 []<|zD 3<|jn fun b5=>jd 5 [0]<|jc (vs:=[zI 1]) [] (JU) ?_
 rintro _ Y31 ⟨OY,rfl,aRm,PC⟩
 refine jf [0] Y31 (fun aZ1 aAb akR=>?_)
 have aRX:=aRm _ akR
 refine M8 (vs:=[(.agg ⟨OY⟩)]) [] (fun _ _ h=>h) (abB aRX) ?_
 rintro _ _ ⟨rfl,rfl⟩
 refine jg 0 []<|zD 8<|jc (vs:=[zI 2]) [] (JU) ?_
 rintro _ Y36 ⟨l36,rfl,aRl,LU⟩
 refine jp (vs:=[zI 2,zI 1,.bool true]) [] [] (fun aE hs hZ=>alR)<|jp (vs:=[zI 0,zI 1,.bool true]) [] [] (fun aE hs hZ=>alR)<|jn fun b39=>jf [1,0] (Y36++[(b39,.cells ⟨[zI 2,zI 1,.bool true,zI 0,zI 1,.bool true]⟩ 57 (0,0))]) (fun aZZ aAa YF=>?_)
 have aRV:=aRl _ (Knows.left YF)
 have aPY:=cb (sz:=3) (enc:=oK) (T:=57) [⟨2,1,true⟩,⟨0,1,true⟩] (Knows.right YF _ (.head _)) (fun _ _=>rfl)
 obtain⟨v0,v1,v3,v4,v5,v6,v7,vb,fa,fc,rfl,aOB⟩:=LU
 refine jp (vs:=[.agg ⟨[v0,v1,(.slice fa 0 fc),v3,v4,v5,v6,v7,zI 1,zI 1,zI 2,vb]⟩,(.slice (some ⟨b39,0,none⟩) 2 2)]) [] [] (fun aE hs hZ=>aFd (NC aOB))<|jc (vs:=[.agg ⟨[v0,v1,(.slice fa 0 fc),v3,v4,v5,v6,v7,zI 1,zI 1,zI 2,(.slice (some ⟨b39,0,none⟩) 2 2)]⟩]) [] (abz (ac6 aRV aPY)) ?_
 rintro _ Y41 ⟨v41,rfl,aO6⟩
 refine zD 8<|jc (vs:=[zI 2]) [] (JU) ?_
 rintro _ Y45 ⟨l45,rfl,aRk,ale⟩
 refine jf [0] Y45 (fun aZX az9 aPH=>?_)
 have aRU:=aRk _ aPH
 refine M8 (vs:=[(.agg ⟨l45⟩)]) [] (fun _ _ h=>h) (apW aRU) ?_
 rintro _ _ ⟨qa,qb,rfl,rfl⟩
 refine jg 0 []<|jd 49 [1]<|jeq aM5 (aEY 0 2 0 2)<|zD 3<|jn fun b92=>jn fun b93=>jn fun b94=>jf [2,1,0] ((b92,.cells ⟨[zI 0,zI 0]⟩ 3 (0,0))::((b93,.cells ⟨[zI 2,zI 1]⟩ 3 (0,0))::[(b94,.cells ⟨[.slice (some ⟨b92,0,none⟩) 2 2,.slice (some ⟨b93,0,none⟩) 2 2]⟩ 22 (0,0))])) (fun aZW az8 as0=>?_)
 obtain⟨wsM,hsM,haM⟩:=aRq.up ((((aAc.trans aAb).trans aAa).trans az9).trans az8)
 have aN8:=cb (sz:=1) (enc:=gN) (T:=22) [.slice (some ⟨b92,0,none⟩) 2 2,.slice (some ⟨b93,0,none⟩) 2 2] (as0 _ (.tail _ (.tail _ (.head _)))) (fun _ _=>rfl)
 have aRd:=cb (sz:=1) (enc:=db) (T:=3) [0,0] (as0 _ (.head _)) (fun _ _=>rfl)
 have aRc:=cb (sz:=1) (enc:=db) (T:=3) [2,1] (as0 _ (.tail _ (.head _))) (fun _ _=>rfl)
 refine jp (vs:=[v22,(.slice (some ⟨b94,0,none⟩) 2 2)]) [] [] (fun aE hs hZ=>(show dL _ _ _ _ (.bool (Ik [[0,0],[2,1]] [[0,0],[2,1]])) from auC (hsM.up hs) (aN8.up hs) (haM.imp fun _ _ h=>h.up hs) (.cons (aRd.up hs) (.cons (aRc.up hs) .nil)) (by decide) (by decide) (by decide) (by decide)))<|zD 3<|jn fun b99=>jp (vs:=[v41,.slice (some ⟨b99,0,none⟩) 1 1]) [1,0] (Y41++[(b99,.cells ⟨([0].map db).flatten⟩ 3 (0,0))]) (fun aE hs hZ=>(show dL _ _ _ _ (.bool (YZ [0] [0])) from aok (aO6.lq hZ.left) (cb [0] hZ.right.head (by intro p hp;rfl)) (by decide) (by decide))) ?_
 refine zD 4<|Sx qC.a.a.a.a.a.a.a.a (.bool true) [3] [] (((((((cy.trans kN).trans rz).trans aAc).trans aAb).trans aAa).trans az9).trans az8) ⟨rfl,rfl⟩
theorem Wa{n:Nat}(hn:n≤4)(hi:i <n):hasB (IntKind.u8.wrap (dD .u8 1 (n:Int)-1)) i=true:=by
 have h:(n=1∧i=0)∨(n=2∧(i=0∨i=1))∨(n=3∧(i=0∨i=1∨i=2))∨(n=4∧(i=0∨i=1∨i=2∨i=3)):=by omega
 rcases h with ⟨rfl,rfl⟩| ⟨rfl,rfl|rfl⟩| ⟨rfl,rfl|rfl|rfl⟩| ⟨rfl,rfl|rfl|rfl|rfl⟩<;>rfl
def A9(a b:Int)(l:List eR):Bool:=l.any fun x=>(decide (x.a=a)&&decide (x.b=b))&& !x.same
def q8(p:Nat→Int)(l:List eR):Bool:=l.all fun x=> !x.same||decide (p x.a.toNat=x.b+1)
theorem UR{on:Int}{a b:Int}:∀ {l:List eR} {k:Nat},(∀j,j <l.length→hasB on ((k+j:Nat):Int)=true)→A8 on a b l k=A9 a b l
 | [],_,_=>rfl
 |x::l,k,h=>by
  have h0:=h 0 (Nat.zero_lt_succ _)
  have ih:=UR (a:=a) (b:=b) (l:=l) (k:=k+1) fun j hj=>by
   have:=h (j+1) (Nat.succ_lt_succ hj)
   rwa[show k+1+j=k+(j+1) by omega]
  simp only[Nat.add_zero] at h0
  simp only[A8,h0,ih,A9,List.any_cons,Bool.true_and]
theorem IN{on:Int}{p:Nat→Int}:∀ {l:List eR} {k:Nat},(∀j,j <l.length→hasB on ((k+j:Nat):Int)=true)→lv on p l k=q8 p l
 | [],_,_=>rfl
 |x::l,k,h=>by
  have h0:=h 0 (Nat.zero_lt_succ _)
  have ih:=IN (p:=p) (l:=l) (k:=k+1) fun j hj=>by
   have:=h (j+1) (Nat.succ_lt_succ hj)
   rwa[show k+1+j=k+(j+1) by omega]
  simp only[Nat.add_zero] at h0
  simp only[lv,h0,ih,q8,List.all_cons,Bool.true_and]
  cases x.same<;>cases decide (p x.a.toNat=x.b+1)<;>simp
def jE(F:Nat→Nat→Bool)(R:(Nat→Int)→Bool)(na:Nat):Nat→Nat→(Nat→Int)→List (Nat→Int)
 |0,_,p=>bif R p then [p] else []
 |n+1,a,p=>jE F R na n (a+1) p++(List.range na).flatMap fun b=>bif !F a b||Af p a ((b:Int)+1) then [] else jE F R na n (a+1) (lj p a ((b:Int)+1))
def Dy(K:aT)(a b:Nat):Bool:=match K.before[a]?,K.after[b]? with
 |some x,some y=> !yL K x y&&(!tT K x y&& !A9 a b K.facts)
 |_,_=>false
theorem alA(h:K.facts.length≤4)(a b:Nat):di K (cv K) a b=Dy K a b:=by
 have e:A8 (cv K) a b K.facts 0=A9 a b K.facts:=UR fun j hj=>by
  rw[Nat.zero_add];exact Wa h hj
 simp only[di,Dy,e]
 cases K.before[a]?<;>cases K.after[b]?<;>rfl
theorem sE(h:K.facts.length≤4):∀(n a:Nat) (p:Nat→Int),iA K (cv K) n a p=jE (Dy K) (fun p=>q8 p K.facts) K.after.length n a p
 |0,a,p=>by
  have e:lv (cv K) p K.facts 0=q8 p K.facts:=IN fun j hj=>by
   rw[Nat.zero_add];exact Wa h hj
  simp only[iA,jE,e]
 |n+1,a,p=>by
  simp only[iA,jE,alA h,sE h n]
theorem Jz{R Q:(Nat→Int)→Bool}:∀(n a:Nat) (p:Nat→Int),jE F (fun p=>R p&&Q p) na n a p=(jE F R na n a p).filter Q
 |0,_,p=>by
  simp only[jE]
  cases h1:R p<;>cases h2:Q p<;>simp[h2]
 |n+1,a,p=>by
  simp only[jE,Jz n,List.filter_append,List.filter_flatMap]
  congr 2
  funext b
  cases !F a b||Af p a ((b:Int)+1)<;>simp
abbrev cu(K:aT)(t:eR):aT:={K with facts:=K.facts++[t]}
theorem XW(hs:t.same=true)(h:K.facts.length≤3):bP (cu K t) (cv (cu K t))=(bP K (cv K)).filter fun q=>decide (q t.a.toNat=t.b+1):=by
 have h1:(cu K t).facts.length≤4:=by simp;omega
 have h2:K.facts.length≤4:=by omega
 simp only[bP]
 rw[sE h1,sE h2,←Jz]
 have e1:Dy (cu K t)=Dy K:=by
  funext a b
  have:A9 a b (cu K t).facts=A9 a b K.facts:=by simp[A9,hs]
  simp only[Dy,this]
  rfl
 rw[e1]
 congr 1
 funext p
 simp[q8,hs]
theorem KR{r:bX}{p:Nat→Int}(hq:q <4):pI (c8 K r i p) q=p q:=by
 rcases Je hq with rfl|rfl|rfl|rfl<;>rfl
theorem CX{K':aT}{on on':Int}{keep:aA→Bool}{rows:List bX}{Q:(Nat→Int)→Bool}{S:aA→Bool}(hp:bP K' on'=(bP K on).filter Q)(hm:∀r i p,c8 K' r i p=c8 K r i p)(hS:∀r i p,S (c8 K r i p)=Q p):ek K' on' keep rows=(ek K on keep rows).filter S:=by
 have h1:∀r i,nX K' on' keep r i=(nX K on keep r i).filter S:=fun r i=>by
  have e:(c8 K' r i)=c8 K r i:=funext fun p=>hm r i p
  simp only[nX,hp,e,List.filter_map,List.filter_filter]
  congr 1
  refine List.filter_congr fun p _=>?_
  simp only[Function.comp,hS]
  exact Bool.and_comm _ _
 simp only[ek,iN,List.filter_flatten,List.map_map]
 congr 1
 refine List.map_congr_left fun i _=>?_
 simp only[Function.comp,h1]
theorem Hf{keep:aA→Bool}{rows:List bX}(hs:t.same=true)(h:K.facts.length≤3)(ha:0≤t.a∧t.a <4):ek (cu K t) (cv (cu K t)) keep rows=(ek K (cv K) keep rows).filter fun x=>decide (pI x t.a.toNat=t.b+1):=
 CX (XW hs h) (fun _ _ _=>rfl) fun r i p=>by rw[KR (by omega)]
theorem aiS{a:Int}(h:xk fs a b=false):∀x∈fs,¬(x.a=a∧x.b=b):=fun x hx hc=>by
 have:=List.any_eq_false.1 h x hx
 simp[hc.1,hc.2] at this
theorem lO.add(h:lO K)(h3:K.facts.length≤3)(ha:0≤t.a∧t.a <K.before.length)(hb:0≤t.b∧t.b <K.after.length)(ht:xk K.facts t.a t.b=false):lO (cu K t):=
 ⟨h.pO,h.ways,h.dI,h.rules,h.before,h.after,h.yf,⟨by simp;omega,fun x hx=>by
  rcases List.mem_append.1 hx with hx|hx
  ·exact h.facts.2 x hx
  ·rw[List.mem_singleton.1 hx];exact⟨ha,hb⟩⟩,List.pairwise_append.2 ⟨h.apart,List.pairwise_singleton _ _,fun x hx y hy=>by
  rw[List.mem_singleton.1 hy];exact aiS ht x hx⟩⟩
theorem fU.add(h:fU K)(h3:K.facts.length≤3)(ha:0≤t.a∧t.a <K.before.length)(hb:0≤t.b∧t.b <K.after.length):fU (cu K t):=
 ⟨h.rules,h.before,h.after,h.dI,⟨by simp;omega,fun x hx=>by
  rcases List.mem_append.1 hx with hx|hx
  ·exact h.facts.2 x hx
  rw[List.mem_singleton.1 hx];exact⟨ha,hb⟩⟩⟩
theorem apo(hC:lO K)(hV:fU K):aX K≤1250:=sO hV _ _ (n5 hC)
set_option maxHeartbeats 2000000 in
theorem adr {ro:Nat→Option Obj} (hK:gG ro l K) (hO:lO K):eI zT 18 [.agg ⟨l⟩] ro [] (fun r Y=>∃(v0 v1 v3 v4 v5 v6 v7 vb:Value) (fa:Option Addr) (fc:Nat) (LF Z:Cells),r= .agg ⟨[v0,v1,.slice fa 0 fc,v3,v4,v5,v6,v7,zI K.gone,zI K.new,zI K.ai,vb]⟩∧(∀v∈[v0,v1,v3,v4,v5,v6,v7,vb],single v=true)∧aD vb 3 57 oK K.facts LF∧(∀aK,Sub ro aK→Knows aK Z→∀(vf:Value) (fs:List eR),bL aK vf 3 oK fs→gG aK [v0,v1,.slice fa 0 fc,v3,v4,v5,v6,v7,zI K.gone,zI K.new,zI K.ai,vf] {K with facts:=fs})∧Y=LF++Z):=by
 obtain⟨vS,vT,vc,vh,vr,vb,va,vf,fa,fc,hv,rfl,hS,hT,p6,nA,hr,hb,ha,hf⟩:=hK
 obtain⟨ib,hs,fw⟩:=id hS
 obtain⟨iI,ht,fo⟩:=id hT
 obtain⟨hc,hh,CI⟩:=id p6
 obtain⟨mg,RV,RS,kU,rfl,RU,Kv,Ku⟩:=hs
 obtain⟨eY,zh,zf,ee,rfl,zg,rH,rG⟩:=ht
 obtain⟨eE,zk,zi,ep,rfl,Cq,xW,xV⟩:=hc
 obtain⟨dM,uy,ux,dq,rfl,wA,qv,qu⟩:=hh
 obtain⟨kI,Hq,Hp,kH,rfl,M1,EZ,EY⟩:=hr
 obtain⟨mN,QE,QB,mA,rfl,QC,Ob,Oa⟩:=hb
 obtain⟨mi,M5,M3,lS,rfl,M4,KC,KB⟩:=ha
 obtain⟨jP,Bm,Bj,iZ,rfl,HV,w9,wZ⟩:=hf
 have BN:=hO.rules
 have qp:=hO.before.1
 have Nf:=hO.after.1
 have Nd:=hO.facts.1
 have Nc:=hO.ways.1
 have Hy:=fw.len
 have Dr:=fo.len
 have V0:=hO.pO.two
 have ZN:=hO.dI.nh
 have M0:∀(i:Nat) (p:cX),([]:List cX)[i]?=some p→cA ⟨ro,[]⟩ 0 (0+i*6) 6 (mH p):=fun _ _ h=>n9 h
 refine bI av [] [] bB<|zD 2<|jn fun b1=>jn fun b2=>zD 3<|jn fun b6=>jd 3 [2]<|jk (sz:=6) (ps:=[]) (qs:=([]:List cX)) (enc:=mH) (w:= .slice fa 0 fc) [0] [] [] (bC (b:=b6) (T:=256)) (fun s he _=>⟨fa,0,0,fc,rfl,(fun _ h=>absurd h (Nat.not_lt_zero _)),fun i p hp=>(M0 i p hp).ext he⟩) (fun p _=>aj rfl) (by simp<;>omega) (fun v10 ZA F6=>?_)
 rw[List.nil_append] at F6
 obtain⟨xN,xL,atn⟩:=F6.form
 subst atn
 refine zD 1<|jn fun b3=>jd 8 [0]<|oU<|oU<|eG [1,1,0,1,0,0] [] (fun(zz:Nat×Value×Cells×(List Value)×Cells)=>[(1,zP b1),(2,zP b2),(3,zP b3),(4,zI (zz.1:Int))]) (fun(zz:Nat×Value×Cells×(List Value)×Cells)=>[.b b3 (.cells ⟨[zz.2.1,zS,(.slice xN (([]:List cX)).length xL)]⟩ 29 (0,0)),.l zz.2.2.1,.l zz.2.2.2.2,.l ZA,.b b2 (.cells ⟨[zS,zS,zS,zS,zS,zS,zS,zS,zI 0,zI 0,zI 0,zS]⟩ 38 (0,0)),.b b1 (.cells ⟨[.slice mg ib.length kU,.slice eY iI.length ee,.slice fa 0 fc,.slice eE K.cs.length ep,.slice dM hv.length dq,.slice kI K.rules.length kH,.slice mN K.before.length mA,.slice mi K.after.length lS,zI K.gone,zI K.new,zI K.ai,.slice jP K.facts.length iZ]⟩ 38 (0,0))]) (fun(zz:Nat×Value×Cells×(List Value)×Cells)=>(zz.1≤ib.length∧zz.2.2.2.1.length=zz.1)∧aD zz.2.1 1 71 gN zz.2.2.2.1 zz.2.2.1∧∀aK,Knows aK zz.2.2.2.2→du (fun w l=>bL aK w 2 cH l) zz.2.2.2.1 (K.str.take zz.1)) (fun(zz:Nat×Value×Cells×(List Value)×Cells)=>ib.length-zz.1) (⟨0,zS,[],[],[]⟩) ⟨⟨by omega,rfl⟩,aD.nil _ _ _,fun _ _=> .nil⟩ [2,1,0,3,4,5] ?_
 rintro⟨i,v0,L0,ps,Z⟩ hI K1 bU rest
 dsimp only at hI
 refine jd 11 [5]<|zJ 18 ((i:Int) <(ib.length:Int)) (fun h1=>?_) fun h1=>?_
 ·
  refine jd 13 [0,5] ?_
  obtain⟨nU,iR⟩:=zG ib i
  refine iE kU 1 Kv iR ?_
  obtain⟨OY,aeA,h31⟩:=fw.get iR
  obtain aPu:=hO.pO.len _ (List.mem_of_getElem? aeA)
  obtain⟨abS,aqn,aqk,abR,rfl,aMg,aqm,aql⟩:=h31
  refine jl 0 (Ku _ _ iR)<|aN 3 fun AY A5 Ah=>jn fun mb=>bD Ah [1,2,3,4,5,6]<|aN 11 fun qZ q6 p7=>jk (sz:=2) (ps:=[]) (qs:=OY) (enc:=cH) (w:= .slice abS OY.length abR) [0] [] [] (bC (b:=mb) (T:=70)) (fun s he _=>⟨abS,aqn,aqk,abR,rfl,aqm,fun i p hp=>(aql i p hp).ext he⟩) (fun p _=>aj rfl) (by simp<;>omega) (fun v32 L32 yn=>?_)
  rw[List.nil_append] at yn
  obtain⟨xM,xK,S5⟩:=yn.form
  subst S5
  refine gX p7 [[6],[1]]<|aN 12 fun rK rR qz=>jn fun b33=>bD qz [1,2,3,4,5,6,7]<|aN 13 fun yY y8 Ag=>jk (sz:=1) (ps:=ps) (qs:=[((.slice xM (OY).length xK):Value)]) (enc:=gN) (w:= .slice (some ⟨b33,0,none⟩) 1 1) [3] [0] [(b33,.cells ⟨([((.slice xM (OY).length xK):Value)].map gN).flatten⟩ 71 (0,0))] (hI.2.1) (fun s _ hZ=>cg [((.slice xM (OY).length xK):Value)] (hZ _ (.head _)) (by intro p hp;rfl)) (by intro p hp;rw[List.mem_singleton] at hp;subst hp;exact aj rfl) (by simp<;>omega) (fun v34 L34 F3=>?_)
  obtain⟨Rf,Ra,S4⟩:=F3.form
  subst S4
  refine gX Ag [[7]]<|zD 2<|aN 16 fun Z5 aaW YL=>jd 1 [3]<|gX YL []<|zD 3<|ja ((i:Int)+1) (by omega)<|zD 2<|Lh bU (⟨i+1,(.slice Rf ((ps++[((.slice xM (OY).length xK):Value)])).length Ra),L34,(ps++[((.slice xM (OY).length xK):Value)]),L32++Z⟩) ⟨⟨by dsimp only;omega,by simp only[List.length_append,List.length_cons,List.length_nil];omega⟩,F3,fun aK hk=>pE (hI.2.2 aK hk.right) aeA (yn.lq hk.left)⟩ (by omega) [[3],[0],[2,4],[5],[6],[7]] (Sub.refl _)
 refine zD 8<|oU<|oU<|eG [1,1,1,0,1,0,0] [] (fun(zz:Nat×Value×Cells×(List Value)×Cells)=>[(1,zP b1),(2,zP b2),(3,zP b3),(5,zI (zz.1:Int))]) (fun(zz:Nat×Value×Cells×(List Value)×Cells)=>[.b b3 (.cells ⟨[v0,zz.2.1,(.slice xN (([]:List cX)).length xL)]⟩ 29 (0,0)),.l zz.2.2.1,.l zz.2.2.2.2,.l L0,.l Z,.l ZA,.b b2 (.cells ⟨[zS,zS,zS,zS,zS,zS,zS,zS,zI 0,zI 0,zI 0,zS]⟩ 38 (0,0)),.b b1 (.cells ⟨[.slice mg ib.length kU,.slice eY iI.length ee,.slice fa 0 fc,.slice eE K.cs.length ep,.slice dM hv.length dq,.slice kI K.rules.length kH,.slice mN K.before.length mA,.slice mi K.after.length lS,zI K.gone,zI K.new,zI K.ai,.slice jP K.facts.length iZ]⟩ 38 (0,0))]) (fun(zz:Nat×Value×Cells×(List Value)×Cells)=>(zz.1≤iI.length∧zz.2.2.2.1.length=zz.1)∧aD zz.2.1 1 78 gN zz.2.2.2.1 zz.2.2.1∧∀aK,Knows aK zz.2.2.2.2→du (fun w l=>bL aK w 7 kB l) zz.2.2.2.1 (K.ways.take zz.1)) (fun(zz:Nat×Value×Cells×(List Value)×Cells)=>iI.length-zz.1) (⟨0,zS,[],[],[]⟩) ⟨⟨by omega,rfl⟩,aD.nil _ _ _,fun _ _=> .nil⟩ [2,1,0,3,4,5,6,7] ?_
 rintro⟨j,v1,L1,qs,Z1⟩ hG K7 ZV rest
 dsimp only at hG
 refine jd 10 [7]<|zJ 42 ((j:Int) <(iI.length:Int)) (fun h7=>?_) fun h7=>?_
 ·
  refine jd 11 [0,7] ?_
  obtain⟨x52,vi⟩:=zG iI j
  refine iE ee 1 rH vi<|zD 1 ?_
  obtain⟨Ss,aez,h54⟩:=fo.get vi
  obtain aPq:=(hO.ways.2 _ (List.mem_of_getElem? aez)).1.2
  obtain⟨abQ,aqj,aqg,abP,rfl,aL5,aqi,aqh⟩:=h54
  refine jl 0 (rG _ _ vi)<|aN 2 fun W8 Xj YK=>jn fun b47=>bD YK [1,2,3,4,5,6,7,8]<|aN 10 fun W7 Xi Tg=>jk (sz:=7) (ps:=[]) (qs:=Ss) (enc:=kB) (w:= .slice abQ Ss.length abP) [0] [] [] (bC (b:=b47) (T:=74)) (fun s he _=>⟨abQ,aqj,aqg,abP,rfl,aqi,fun i p hp=>(aqh i p hp).ext he⟩) (fun p _=>aj rfl) (by simp<;>omega) (fun v55 L55 ym=>?_)
  rw[List.nil_append] at ym
  obtain⟨Ey,Ew,ate⟩:=ym.form
  subst ate
  refine gX Tg [[8],[1]]<|zD 1<|aN 12 fun Ek EG vw=>jn fun b57=>bD vw [1,2,3,4,5,6,7,8,9]<|aN 13 fun Iw IB BQ=>jk (sz:=1) (ps:=qs) (qs:=[((.slice Ey (Ss).length Ew):Value)]) (enc:=gN) (w:= .slice (some ⟨b57,0,none⟩) 1 1) [3] [0] [(b57,.cells ⟨([((.slice Ey (Ss).length Ew):Value)].map gN).flatten⟩ 78 (0,0))] (hG.2.1) (fun s _ hZ=>cg [((.slice Ey (Ss).length Ew):Value)] (hZ _ (.head _)) (by intro p hp;rfl)) (by intro p hp;rw[List.mem_singleton] at hp;subst hp;exact aj rfl) (by simp<;>omega) (fun v58 L58 FW=>?_)
  obtain⟨Re,Q9,Gf⟩:=FW.form
  subst Gf
  refine gX BQ [[9]]<|zD 1<|aN 15 fun Nn NI BP=>jd 1 [3]<|dV BP<|zD 3<|ja ((j:Int)+1) (by omega)<|zD 2<|Lh ZV (⟨j+1,(.slice Re ((qs++[((.slice Ey (Ss).length Ew):Value)])).length Q9),L58,(qs++[((.slice Ey (Ss).length Ew):Value)]),L55++Z1⟩) ⟨⟨by dsimp only;omega,by simp only[List.length_append,List.length_cons,List.length_nil];omega⟩,FW,fun aK hk=>pE (hG.2.2 aK hk.right) aez (ym.lq hk.left)⟩ (by omega) [[3],[0],[2,4],[5],[6],[7],[8],[9]] (Sub.refl _)
 refine zD 3<|Hs [1,1,1,1,1] [] (fun(zz:(Option Addr)×Nat×(Option Addr)×Nat×(List bA)×Cells×Value×Cells)=>[(1,zP b1),(2,zP b2)]) (fun(zz:(Option Addr)×Nat×(Option Addr)×Nat×(List bA)×Cells×Value×Cells)=>[.b b1 (.cells ⟨[v0,v1,(.slice xN (([]:List cX)).length xL),(.slice zz.1 K.cs.length zz.2.1),(.slice zz.2.2.1 zz.2.2.2.2.1.length zz.2.2.2.1),zz.2.2.2.2.2.2.1,.slice mN K.before.length mA,.slice mi K.after.length lS,zI K.gone,zI K.new,zI K.ai,.slice jP K.facts.length iZ]⟩ 38 (0,0)),.l zz.2.2.2.2.2.2.2,.l zz.2.2.2.2.2.1,.b b3 (.cells ⟨[v0,v1,(.slice xN (([]:List cX)).length xL)]⟩ 29 (0,0)),.l L1,.l Z1,.l L0,.l Z,.l ZA,.b b2 (.cells ⟨[zS,zS,zS,zS,zS,zS,zS,zS,zI 0,zI 0,zI 0,zS]⟩ 38 (0,0))]) (fun(zz:(Option Addr)×Nat×(Option Addr)×Nat×(List bA)×Cells×Value×Cells)=>du dj zz.2.2.2.2.1 K.hd∧(∀aK,Sub ro aK→Knows aK zz.2.2.2.2.2.1→iX aK (.slice zz.1 K.cs.length zz.2.1) (.slice zz.2.2.1 zz.2.2.2.2.1.length zz.2.2.2.1) K.cs zz.2.2.2.2.1 K.hd)∧aD zz.2.2.2.2.2.2.1 2 81 iB K.rules zz.2.2.2.2.2.2.2) ?_ (fun K13 LZ=>?_)
 ·
  rintro⟨ta,tc,ua,uc,hw,ZT,vR,LR⟩ hJ rest
  dsimp only at hJ
  refine zD 1<|Hs [1,1,1,1,1,1] [] (fun(zz:Value×Cells×Value×Cells×Value×Cells)=>[(1,zP b1),(2,zP b2)]) (fun(zz:Value×Cells×Value×Cells×Value×Cells)=>[.b b1 (.cells ⟨[v0,v1,(.slice xN (([]:List cX)).length xL),(.slice ta K.cs.length tc),(.slice ua hw.length uc),vR,zz.1,zz.2.2.1,zI K.gone,zI K.new,zI K.ai,zz.2.2.2.2.1]⟩ 38 (0,0)),.l zz.2.1,.l zz.2.2.2.1,.l zz.2.2.2.2.2,.l LR,.l ZT,.b b3 (.cells ⟨[v0,v1,(.slice xN (([]:List cX)).length xL)]⟩ 29 (0,0)),.l L1,.l Z1,.l L0,.l Z,.l ZA,.b b2 (.cells ⟨[zS,zS,zS,zS,zS,zS,zS,zS,zI 0,zI 0,zI 0,zS]⟩ 38 (0,0))]) (fun(zz:Value×Cells×Value×Cells×Value×Cells)=>aD zz.1 5 86 eJ K.before zz.2.1∧aD zz.2.2.1 5 86 eJ K.after zz.2.2.2.1∧aD zz.2.2.2.2.1 3 57 oK K.facts zz.2.2.2.2.2) ?_ (fun K14 Ih=>?_)
  ·
   rintro⟨vB,LB,vA,LA,vF,LF⟩ hM rest
   dsimp only at hM
   refine jd 3 [0] ?_
   obtain⟨aph,ao7,atm⟩:=hI.2.1.form
   subst atm
   obtain⟨Ez,C5,uB⟩:=hG.2.1.form
   subst uB
   obtain⟨apg,ao6,LN⟩:=hJ.2.2.form
   subst LN
   obtain⟨apf,ao5,aeS⟩:=hM.1.form
   subst aeS
   obtain⟨wX,wW,Ic⟩:=hM.2.1.form
   subst Ic
   obtain⟨aaE,Xe,LJ⟩:=hM.2.2.form
   subst LJ
   refine jd 3 [12]<|aJ q0 (.agg ⟨[(.slice aph (ps).length ao7),(.slice Ez (qs).length C5),(.slice xN (([]:List cX)).length xL),(.slice ta K.cs.length tc),(.slice ua hw.length uc),(.slice apg (K.rules).length ao6),(.slice apf (K.before).length ao5),(.slice wX (K.after).length wW),zI K.gone,zI K.new,zI K.ai,(.slice aaE (K.facts).length Xe)]⟩) [12] [3,1,2,4,5,7,8,9,10,11] (LF++(LB++(LA++(LR++(ZT++(L1++(Z1++(L0++(Z++ZA))))))))) (Sub.refl _) ⟨_,_,rfl,rfl,_,_,_,_,_,_,_,_,_,_,_,_,rfl,zb (eZ hI.2.1) (eZ hG.2.1) rfl rfl (eZ hJ.2.2) (eZ hM.1) (eZ hM.2.1) (eZ hM.2.2),hM.2.2,fun aK pY hk vf fs hvf=>⟨_,_,_,_,_,_,_,_,_,_,hw,rfl,⟨_,hI.2.1.lq hk.right.right.right.right.right.right.left,by have:=hI.2.2 aK hk.right.right.right.right.right.right.right.left;rwa[List.take_of_length_le (by omega)] at this⟩,⟨_,hG.2.1.lq hk.right.right.right.right.left,by have:=hG.2.2 aK hk.right.right.right.right.right.left;rwa[List.take_of_length_le (by omega)] at this⟩,hJ.2.1 aK pY hk.right.right.right.left,hJ.1,hJ.2.2.lq hk.right.right.left,hM.1.lq hk.left,hM.2.1.lq hk.right.left,hvf⟩,rfl⟩
  refine jd 7 [0,0,0]<|mO [2,6] ⟨fun z15 t16 Gn=>?_,fun z18 t19 LX=>?_,trivial⟩
  ·
   refine jc (vs:=[.slice mN K.before.length mA]) [] (gV (show bL _ _ _ _ _ from ⟨mN,QE,QB,mA,rfl,QC,Ob,Oa⟩) (by omega)) ?_
   rintro v73 L73 ⟨_,yp,rfl⟩
   refine bD Gn [1,2,3,4,5,6,7,8,9,10]<|zD 1<|mO [5,6] ⟨fun z21 t22 Tp=>?_,fun z24 t25 Ig=>?_,trivial⟩
   ·
    refine jc (vs:=[.slice mi K.after.length lS]) [] (gV (show bL _ _ _ _ _ from ⟨mi,M5,M3,lS,rfl,M4,KC,KB⟩) (by omega)) ?_
    rintro v76 Zz ⟨_,vu,rfl⟩
    refine bD Tp [1,2,3,4,5,6,7,8,9,10,11]<|aN 6 fun Us UD LW=>jn fun b77=>bD LW [1,2,3,4,5,6,7,8,9,10,11,12]<|aN 9 fun Ur UC Gm=>jk (sz:=3) (ps:=[]) (qs:=K.facts) (enc:=oK) (w:= .slice jP K.facts.length iZ) [0] [] [] (bC (b:=b77) (T:=57)) (fun s he _=>⟨jP,Bm,Bj,iZ,rfl,w9,fun i p hp=>(wZ i p hp).ext he⟩) (fun p _=>aj rfl) (by simp<;>omega) (fun v80 L80 gk=>?_)
    rw[List.nil_append] at gk
    obtain⟨Ex,Eu,Ge⟩:=gk.form
    subst Ge
    refine gX Gm []<|aN 11 (fun Nm NH Gl=>?_)
    obtain⟨aaD,aaw,S6⟩:=yp.form
    subst S6
    refine jd 1 [3]<|dV Gl<|zD 1<|aN 13 (fun Uq UB LV=>?_)
    obtain⟨apd,ao3,atj⟩:=vu.form
    subst atj
    refine jd 1 [3]<|dV LV<|zD 1<|aN 15 fun aab aa0 PC=>jd 1 [3]<|dV PC<|zD 1<|bO Ih ⟨(.slice aaD (K.before).length aaw),L73,(.slice apd (K.after).length ao3),Zz,(.slice Ex (K.facts).length Eu),L80⟩ ⟨yp,vu,gk⟩ Nat.zero_lt_one [3,2,1,0,4,5,6,7,8,9,10,11,12] (Sub.refl _)
   refine jn fun b77=>bD Ig [1,2,3,4,5,6,7,8,9,10,11]<|aN 5 fun amq amM afk=>jc (vs:=[.slice mi K.after.length lS]) [] (gV (show bL _ _ _ _ _ from ⟨mi,M5,M3,lS,rfl,M4,KC,KB⟩) (by omega)) ?_
   rintro v76 Zz ⟨_,vu,rfl⟩
   refine bD afk [1,2,3,4,5,6,7,8,9,10,11,12]<|aN 9 fun awl axf afj=>jk (sz:=3) (ps:=[]) (qs:=K.facts) (enc:=oK) (w:= .slice jP K.facts.length iZ) [1] [] [] (bC (b:=b77) (T:=57)) (fun s he _=>⟨jP,Bm,Bj,iZ,rfl,w9,fun i p hp=>(wZ i p hp).ext he⟩) (fun p _=>aj rfl) (by simp<;>omega) (fun v80 L80 gk=>?_)
   rw[List.nil_append] at gk
   obtain⟨Ex,Eu,Ge⟩:=gk.form
   subst Ge
   refine gX afj []<|aN 11 (fun awk axe at0=>?_)
   obtain⟨xM,xK,S5⟩:=yp.form
   subst S5
   refine jd 1 [3]<|dV at0<|zD 1<|aN 13 (fun awj axd atZ=>?_)
   obtain⟨Rf,Ra,S4⟩:=vu.form
   subst S4
   refine jd 1 [3]<|dV atZ<|zD 1<|aN 15 fun amo amL LU=>jd 1 [3]<|dV LU<|zD 1<|bO Ih ⟨(.slice xM (K.before).length xK),L73,(.slice Rf (K.after).length Ra),Zz,(.slice Ex (K.facts).length Eu),L80⟩ ⟨yp,vu,gk⟩ Nat.zero_lt_one [3,2,1,0,4,5,6,7,8,9,10,11,12] (Sub.refl _)
  refine jn fun b77=>bD LX [1,2,3,4,5,6,7,8,9,10]<|aN 2 fun aaa aaZ Tn=>jc (vs:=[.slice mN K.before.length mA]) [] (gV (show bL _ _ _ _ _ from ⟨mN,QE,QB,mA,rfl,QC,Ob,Oa⟩) (by omega)) ?_
  rintro v73 L73 ⟨_,yp,rfl⟩
  refine bD Tn [1,2,3,4,5,6,7,8,9,10,11]<|zD 1<|aN 5 fun amn amK afi=>jc (vs:=[.slice mi K.after.length lS]) [] (gV (show bL _ _ _ _ _ from ⟨mi,M5,M3,lS,rfl,M4,KC,KB⟩) (by omega)) ?_
  rintro v76 Zz ⟨_,vu,rfl⟩
  refine bD afi [1,2,3,4,5,6,7,8,9,10,11,12]<|aN 9 fun amm amJ afh=>jk (sz:=3) (ps:=[]) (qs:=K.facts) (enc:=oK) (w:= .slice jP K.facts.length iZ) [2] [] [] (bC (b:=b77) (T:=57)) (fun s he _=>⟨jP,Bm,Bj,iZ,rfl,w9,fun i p hp=>(wZ i p hp).ext he⟩) (fun p _=>aj rfl) (by simp<;>omega) (fun v80 L80 gk=>?_)
  rw[List.nil_append] at gk
  obtain⟨Ex,Eu,Ge⟩:=gk.form
  subst Ge
  refine gX afh []<|aN 11 (fun aml amI afg=>?_)
  obtain⟨aaB,aau,aeP⟩:=yp.form
  subst aeP
  refine jd 1 [3]<|dV afg<|zD 1<|aN 13 (fun awi axc aff=>?_)
  obtain⟨apb,ao1,ath⟩:=vu.form
  subst ath
  refine jd 1 [3]<|dV aff<|zD 1<|aN 15 fun awh axb atY=>jd 1 [3]<|dV atY<|zD 1<|bO Ih ⟨(.slice aaB (K.before).length aau),L73,(.slice apb (K.after).length ao1),Zz,(.slice Ex (K.facts).length Eu),L80⟩ ⟨yp,vu,gk⟩ Nat.zero_lt_one [3,2,1,0,4,5,6,7,8,9,10,11,12] (Sub.refl _)
 refine jd 7 [0,7,7]<|mO [3,4] ⟨fun z43 t44 ale=>?_,fun z46 t47 atX=>?_,trivial⟩
 ·
  refine jc [] (tE hO.dI p6 nA) ?_
  rintro _ Ud ⟨SK,auO,atK,auM,atA,_,rfl,FQ,FP,rfl⟩
  refine bD ale [1,2,3,4,5,6,7,8]<|aN 4 fun awg axa afe=>jn fun b64=>bD afe [1,2,3,4,5,6,7,8,9]<|aN 7 fun awf aw9 afd=>jk (sz:=2) (ps:=[]) (qs:=K.rules) (enc:=iB) (w:= .slice kI K.rules.length kH) [0] [] [] (bC (b:=b64) (T:=81)) (fun s he _=>⟨kI,Hq,Hp,kH,rfl,EZ,fun i p hp=>(EY i p hp).ext he⟩) (fun p _=>aj rfl) (by simp<;>omega) (fun v67 L67 lJ=>?_)
  rw[List.nil_append] at lJ
  obtain⟨Rc,Q8,S2⟩:=lJ.form
  subst S2
  refine gX afd [[2]]<|aN 9 (fun amk amH afc=>?_)
  obtain⟨aaA,aat,S3⟩:=hI.2.1.form
  subst S3
  obtain⟨aJ0,aJE,atf⟩:=hG.2.1.form
  subst atf
  refine jd 1 [9]<|dV afc<|zD 1<|aN 11 fun amj amG Tm=>jd 1 [9]<|dV Tm<|zD 1<|aN 13 fun Z8 aaY Tl=>jd 1 [9]<|dV Tl<|zD 1<|bO LZ ⟨_,_,_,_,SK,Ud,(.slice Rc (K.rules).length Q8),L67⟩ ⟨FQ,FP,lJ⟩ Nat.zero_lt_one [9,0,1,2,3,4,5,6,7,8] (Sub.refl _)
 refine jn fun b64=>bD atX [1,2,3,4,5,6,7,8]<|aN 3 fun Z6 aaX Tk=>jc [] (tE hO.dI p6 nA) ?_
 rintro _ Ud ⟨SK,auO,atK,auM,atA,_,rfl,FQ,FP,rfl⟩
 refine bD Tk [1,2,3,4,5,6,7,8,9]<|aN 7 fun ami amF afb=>jk (sz:=2) (ps:=[]) (qs:=K.rules) (enc:=iB) (w:= .slice kI K.rules.length kH) [1] [] [] (bC (b:=b64) (T:=81)) (fun s he _=>⟨kI,Hq,Hp,kH,rfl,EZ,fun i p hp=>(EY i p hp).ext he⟩) (fun p _=>aj rfl) (by simp<;>omega) (fun v67 L67 lJ=>?_)
 rw[List.nil_append] at lJ
 obtain⟨Rc,Q8,S2⟩:=lJ.form
 subst S2
 refine gX afb [[2]]<|aN 9 (fun amh amE afa=>?_)
 obtain⟨aiO,aiM,aeN⟩:=hI.2.1.form
 subst aeN
 obtain⟨Re,Q9,Gf⟩:=hG.2.1.form
 subst Gf
 refine jd 1 [9]<|dV afa<|zD 1<|aN 11 fun amg amD Tj=>jd 1 [9]<|dV Tj<|zD 1<|aN 13 fun awe aw8 atW=>jd 1 [9]<|dV atW<|zD 1<|bO LZ ⟨_,_,_,_,SK,Ud,(.slice Rc (K.rules).length Q8),L67⟩ ⟨FQ,FP,lJ⟩ Nat.zero_lt_one [9,0,1,2,3,4,5,6,7,8] (Sub.refl _)
noncomputable def yJ(K:aT):iH:=aO (ek K (cv K) (dC K.gone K.new K.ai) (fE K))
theorem ahf(h:K.facts.length≤3)(hi:i <4):(aX (cu K ⟨i,j,true⟩):Int)=(yJ K).c i j:=by
 have e:aX (cu K ⟨i,j,true⟩)=(ek (cu K ⟨i,j,true⟩) (cv (cu K ⟨i,j,true⟩)) (dC K.gone K.new K.ai) (fE K)).length:=rfl
 rw[e,Hf rfl h ⟨by show (0:Int)≤i;omega,by show (i:Int) <4;omega⟩]
 show ((List.filter (fun x=>decide (pI x ((i:Nat):Int).toNat=(j:Int)+1)) _).length:Int)=_
 rw[Int.toNat_natCast]
 rfl
theorem al3(K:aT)(i j:Nat):0≤(yJ K).c i j∧(yJ K).c i j≤aX K:=Mu _ i j
def amd(n:Int)(s:tV):Prop:=s.w≤n∧(s.f=true→s.w <n)∧(s.f=false→s.w=n∧s.a=0∧s.b=0)
theorem MI{m:iH}{n:Int}{i:Nat}{s:tV}(h:amd n s):∀j,amd n (yK m n i s j)
 |0=>h
 |j+1=>by
  have ih:=MI (m:=m) (i:=i) h j
  rw[yK]
  split
  ·rename_i hw
   exact⟨by have:=ih.1;dsimp only;omega,fun _=>by have:=ih.1;dsimp only;omega,fun e=>by cases e⟩
  exact ih
theorem MJ{m:iH}{w:Nat}:∀i,amd n (MK m n w i)
 |0=>⟨Int.le_refl _,(fun e=>by cases e),fun _=>⟨rfl,rfl,rfl⟩⟩
 |i+1=>MI (MJ i) w
theorem Mc{R:(Nat→Int)→Bool}:∀(n a:Nat) (p q:Nat→Int),q∈jE F R na n a p→R q=true
 |0,_,p,q,h=>by
  simp only[jE] at h
  cases hr:R p
  ·rw[hr] at h;simp at h
  rw[hr] at h;simp at h;rw[h];exact hr
 |n+1,a,p,q,h=>by
  simp only[jE,List.mem_append,List.mem_flatMap] at h
  rcases h with h| ⟨b,_,h⟩
  ·exact Mc n _ _ _ h
  cases hx: !F a b||Af p a ((b:Int)+1)
  ·rw[hx] at h;exact Mc n _ _ _ h
  rw[hx] at h;simp at h
theorem BR{R:(Nat→Int)→Bool}:∀(n a:Nat) (p q:Nat→Int),q∈jE F R na n a p→∀c,q c=p c∨∃b:Nat,F c b=true∧q c=(b:Int)+1
 |0,_,p,q,h,c=>by
  simp only[jE] at h
  cases hr:R p
  ·rw[hr] at h;simp at h
  rw[hr] at h;simp at h;exact .inl (by rw[h])
 |n+1,a,p,q,h,c=>by
  simp only[jE,List.mem_append,List.mem_flatMap] at h
  rcases h with h| ⟨b,_,h⟩
  ·exact BR n _ _ _ h c
  cases hx: !F a b||Af p a ((b:Int)+1)
  ·rw[hx] at h
   simp only[Bool.or_eq_false_iff,Bool.not_eq_false'] at hx
   rcases BR n _ _ _ h c with e|e
   ·by_cases hc:c=a
    ·subst hc
     exact .inr ⟨b,hx.1,by rw[e];simp[lj]⟩
    exact .inl (by rw[e];simp[lj,hc])
   exact .inr e
  rw[hx] at h;simp at h
theorem aaU(h:K.facts.length≤4)(hi:i <4)(ht:xk K.facts i j=true):(yJ K).c i j=0∨(yJ K).c i j=aX K:=by
 obtain⟨x,hx,hxe⟩:=List.any_eq_true.1 ht
 simp only[Bool.and_eq_true,decide_eq_true_eq] at hxe
 obtain⟨ha,hb⟩:=hxe
 have key:∀t∈ek K (cv K) (dC K.gone K.new K.ai) (fE K),∃q,q∈jE (Dy K) (fun p=>q8 p K.facts) K.after.length K.before.length 0 (fun _=>0)∧pI t i=q i:=fun t ht=>by
  obtain⟨a,r,q,_,hq,rfl,_⟩:=oA ht
  rw[bP,sE h] at hq
  exact⟨q,hq,KR hi⟩
 cases hs:x.same
 ·left
  have Hw:∀b:Nat,(b:Int)=j→Dy K i b=false:=fun b hbj=>by
   have e:A9 i b K.facts=true:=List.any_eq_true.2 ⟨x,hx,by simp[ha,hb,hs,hbj]⟩
   simp only[Dy,e]
   cases K.before[i]?<;>cases K.after[b]?<;>simp
  show ((List.filter _ _).length:Int)=0
  rw[List.filter_eq_nil_iff.2]
  ·rfl
  intro t ht
  obtain⟨q,hq,e⟩:=key t ht
  simp only[decide_eq_true_eq]
  rw[e]
  intro hc
  rcases BR _ _ _ _ hq i with e2| ⟨b,hf,e2⟩
  ·rw[e2] at hc;omega
  rw[Hw b (by omega)] at hf;cases hf
 right
 show ((List.filter _ _).length:Int)=_
 rw[List.filter_eq_self.2]
 ·rfl
 intro t ht
 obtain⟨q,hq,e⟩:=key t ht
 have hr:=Mc _ _ _ _ hq
 have:=List.all_eq_true.1 hr x hx
 simp only[hs,Bool.not_true,Bool.false_or,decide_eq_true_eq,ha,Int.toNat_natCast] at this
 rw[e]
 simp[this,hb]
theorem ahe{s:tV}{f:Bool}{a w:Int}(h:K.facts.length≤4)(hi:i <4)(ht:xk K.facts i j=true)(hw:w≤aX K)(he:(⟨f,a,b,w⟩:tV)=yK (yJ K) (aX K) i s j):(⟨f,a,b,w⟩:tV)=yK (yJ K) (aX K) i s (j+1):=
 T8 he (by
  have:=aaU h hi ht
  simp only[Ir]
  omega)
theorem al2{N:Int}{f:Bool}{a w x y z e:Int}(h:amd N ⟨f,a,b,w⟩)(hr:(x,y,z,e)=Qn ⟨f,a,b,w⟩):(w <N∧x=a∧y=b∧z=w∧e=0)∨(w=N∧x=0∧y=0∧z=0∧e=11):=by
 cases f
 ·simp only[Qn,cond_false,Prod.mk.injEq] at hr
  have:=h.2.2 rfl
  exact .inr ⟨this.1,hr.1,hr.2.1,hr.2.2.1,hr.2.2.2⟩
 simp only[Qn,cond_true,Prod.mk.injEq] at hr
 exact .inl ⟨h.2.1 rfl,hr.1,hr.2.1,hr.2.2.1,hr.2.2.2⟩
theorem aq3{ro:Nat→Option Obj}(hN:Dn ro vd xs):aoG zT 4 [vd] ro (fun r Y=>r= .bool true∧Y=[]):=by
 have hN0:=hN
 obtain⟨hl,hxn⟩:=hN
 obtain⟨fC,rj,ri,eV,rfl,tj,lB,mz⟩:=hl
 refine azB av (by kernel_rfl) [] bB fun fr=>zD 7<|jc (vs:=[.slice fC xs.length eV]) [] (aSY hN0.1) ?_
 rintro _ X16 ⟨d16,rfl,afv⟩
 refine jcG (vs:=[zP d16,zI 3,zI 1]) [0] (aSZ hN0 afv (by decide) (by decide)) ?_
 rintro _ aE X18 cy ⟨K,l,rfl,hO,ui,hK,PE⟩
 obtain⟨v0,v1,v3,v4,v5,v6,v7,vb,va,vc,hv,rfl,_,_,_,_,_,hb,ha,hf⟩:=id hK
 obtain⟨mN,QE,QB,mA,rfl,QC,Ob,Oa⟩:=hb
 obtain⟨mi,M5,M3,lS,rfl,M4,KC,KB⟩:=ha
 obtain⟨jP,Bm,Bj,iZ,rfl,HV,w9,wZ⟩:=hf
 have hC:=hO.c
 have hV:=hO.v
 have asI:=hO.yf
 have V8:=hV.before.1
 have Jy:=hV.after.1
 refine jn fun b3=>jsx 0 b3 0 [zS,zS,zS,zS,zS,zS,zS,zS,zI 0,zI 0,zI 0,zS] [v0,v1,.slice va 0 vc,v3,v4,v5,.slice mN K.before.length mA,.slice mi K.after.length lS,zI K.gone,zI K.new,zI K.ai,.slice jP K.facts.length iZ] 38 hK.L.all rfl<|jd 4 [0]<|M8 (vs:=[.agg ⟨[v0,v1,.slice va 0 vc,v3,v4,v5,.slice mN K.before.length mA,.slice mi K.after.length lS,zI K.gone,zI K.new,zI K.ai,.slice jP K.facts.length iZ]⟩]) [] (fun _ _ h=>h) (FH (K:=K) hK hC hV) ?_
 rintro _ _ ⟨rfl,rfl⟩
 refine jg 0 []<|jd 9 [0]<|M8 (vs:=[.agg ⟨[v0,v1,.slice va 0 vc,v3,v4,v5,.slice mN K.before.length mA,.slice mi K.after.length lS,zI K.gone,zI K.new,zI K.ai,.slice jP K.facts.length iZ]⟩]) [] (fun _ _ h=>h) (azz hK hV (n5 hC) (yI hK hC hV) GO) ?_
 rintro _ _ ⟨zA,ax,ay,aw,ae,hzA,rfl,rfl,hpA⟩
 refine jg 0 []<|zD 24<|zJ 37 ((aX K:Int)=0) (fun h2=>?_) fun h2=>?_
 ·
  have hA0:ae=9:=by rcases hpA with h|h;exact h.2.2.2.2;have lz:zA.length=aX K:=hzA.length_eq;exact absurd (List.eq_nil_of_length_eq_zero (by omega)) h.1
  refine zD 6<|js 40 (decide (ae=9)) (fun h3=>?_) (fun h3=>?_)
  ·
   have sD:=h3
   replace sD:=of_decide_eq_true sD
   refine M8 [] (fun _ _ h=>h) (Kk) ?_
   rintro _ _ ⟨rfl,rfl⟩
   refine jg 0 []<|zD 4<|Sx qC.a (.bool true) [2] [] cy ⟨rfl,rfl⟩
  have sD:=h3
  replace sD:=of_decide_eq_false sD
  exfalso;omega
 refine zD 3 ?_
 have hA1:(ax,ay,aw,ae)=Qn (MK (yJ K) ((aX K:Nat):Int) K.after.length K.before.length):=by rcases hpA with h|h;exfalso;have lz:zA.length=aX K:=hzA.length_eq;rw[h.1,List.length_nil] at lz;omega;have:=h.2;rw[GR hzA,hzA.length_eq] at this;exact this
 have hf3:K.facts.length≤3:=by omega
 refine zD 12<|eG [1,1,1,1,1,1,1,0,1,0,0] [] (fun(zz:Nat×Bool×Int×Int×Int)=>[(3,zP b3),(4,zI (aX K:Int)),(6,zI ax),(7,zI ay),(8,zI aw),(9,zI ae),(10,zI zz.2.2.1),(11,zI zz.2.2.2.1),(12,zI zz.2.2.2.2),(13,zI (zz.1:Int))]) (fun(zz:Nat×Bool×Int×Int×Int)=>[.b b3 (.cells ⟨[v0,v1,.slice va 0 vc,v3,v4,v5,.slice mN K.before.length mA,.slice mi K.after.length lS,zI K.gone,zI K.new,zI K.ai,.slice jP K.facts.length iZ]⟩ 38 (0,0)),.l X18,.l fr]) (fun(zz:Nat×Bool×Int×Int×Int)=>zz.1≤K.before.length∧(⟨zz.2.1,zz.2.2.1,zz.2.2.2.1,zz.2.2.2.2⟩:tV)=(MK (yJ K) ((aX K:Nat):Int) K.after.length zz.1)) (fun(zz:Nat×Bool×Int×Int×Int)=>K.before.length-zz.1) (⟨0,false,0,0,((aX K:Nat):Int)⟩) ⟨by dsimp only;omega,rfl⟩ [0,1,2] ?_
 rintro⟨i,qf,qa,qb,qw⟩ hI K1 bU rest
 dsimp only at hI
 refine jd 9 [0]<|zJ 48 ((i:Int) <(K.before.length:Int)) (fun h4=>?_) fun h4=>?_
 ·
  refine zD 9<|eG [1,1,1,1,1,1,1,0,1,0,0,1,0,0,1,0,0] [K1] (fun(zz:Nat×Bool×Int×Int×Int)=>[(3,zP b3),(4,zI (aX K:Int)),(6,zI ax),(7,zI ay),(8,zI aw),(9,zI ae),(10,zI zz.2.2.1),(11,zI zz.2.2.2.1),(12,zI zz.2.2.2.2),(13,zI (i:Int)),(14,zI (zz.1:Int))]) (fun(zz:Nat×Bool×Int×Int×Int)=>[.b b3 (.cells ⟨[v0,v1,.slice va 0 vc,v3,v4,v5,.slice mN K.before.length mA,.slice mi K.after.length lS,zI K.gone,zI K.new,zI K.ai,.slice jP K.facts.length iZ]⟩ 38 (0,0)),.l X18,.l fr]) (fun(zz:Nat×Bool×Int×Int×Int)=>zz.1≤K.after.length∧(⟨zz.2.1,zz.2.2.1,zz.2.2.2.1,zz.2.2.2.2⟩:tV)=(yK (yJ K) ((aX K:Nat):Int) i (MK (yJ K) ((aX K:Nat):Int) K.after.length i) zz.1)) (fun(zz:Nat×Bool×Int×Int×Int)=>K.after.length-zz.1) (⟨0,qf,qa,qb,qw⟩) ⟨by dsimp only;omega,hI.2⟩ [0,1,2] ?_
  rintro⟨j,qf,qa,qb,qw⟩ hJ K2 lL rest
  dsimp only at hJ
  have hwo:=MI (m:=yJ K) (i:=i) (MJ (m:=yJ K) (n:=((aX K:Nat):Int)) (w:=K.after.length) i) j
  rw[←hJ.2] at hwo
  have hwl:qw≤((aX K:Nat):Int):=hwo.1
  refine jd 9 [0]<|zJ 55 ((j:Int) <(K.after.length:Int)) (fun h5=>?_) fun h5=>?_
  ·
   refine jd 10 [0]<|jp (vs:=[zI (i:Int),zI (j:Int),.bool true]) [] [] (fun aE hs hZ=>alR)<|jp (vs:=[.agg ⟨[v0,v1,.slice va 0 vc,v3,v4,v5,.slice mN K.before.length mA,.slice mi K.after.length lS,zI K.gone,zI K.new,zI K.ai,.slice jP K.facts.length iZ]⟩,.agg ⟨[zI (i:Int),zI (j:Int),.bool true]⟩]) [] [] (fun aE hs hZ=>anp (x:=⟨(i:Int),(j:Int),true⟩) ((show bL _ _ _ _ _ from ⟨jP,Bm,Bj,iZ,rfl,HV,w9,wZ⟩).up hs) (by omega))<|zD 1<|js 62 (xk K.facts (i:Int) (j:Int)) (fun h6=>?_) (fun h6=>?_)
   ·
    refine zD 4<|ja ((j:Int)+1) (by omega)<|zD 2<|bO lL (⟨j+1,qf,qa,qb,qw⟩) ⟨by dsimp only;omega,ahe (by omega) (by omega) (by assumption) hwl hJ.2⟩ (by dsimp only;omega) [0,1,2] (Sub.refl _)
   refine jd 5 [0]<|jc (vs:=[.agg ⟨[v0,v1,.slice va 0 vc,v3,v4,v5,.slice mN K.before.length mA,.slice mi K.after.length lS,zI K.gone,zI K.new,zI K.ai,.slice jP K.facts.length iZ]⟩]) [] (adr hK hC) ?_
   rintro _ _ ⟨aaP,aaO,aaN,aaM,aaL,aaK,aaJ,aw3,aaI,aaH,aTV,Z64,rfl,aOA,aAw,aPE,rfl⟩
   have az5:=Um.all (K:=K) ⟨aaP,aaO,aaN,aaM,aaL,aaK,aaJ,aw3,aaI,aaH,rfl,aOA⟩
   refine jg 0 [.l aTV,.l Z64]<|jn (fun lf=>?_)
   obtain⟨Nw,Nu,LI⟩:=aAw.form
   subst LI
   refine jsx 0 lf 0 [zS,zS,zS,zS,zS,zS,zS,zS,zI 0,zI 0,zI 0,zS] [aaP,aaO,.slice aaI 0 aaH,aaN,aaM,aaL,aaK,aaJ,zI K.gone,zI K.new,zI K.ai,(.slice Nw (K.facts).length Nu)] 38 az5 rfl<|jd 7 [0]<|jp (vs:=[zI (i:Int),zI (j:Int),.bool true]) [] [] (fun aE hs hZ=>alR)<|aN 5 fun qZ q6 p7=>jn fun b70=>bD p7 [1,2,3,4,5,6]<|aN 6 fun rK rR qz=>jk (sz:=3) (ps:=K.facts) (qs:=[(⟨(i:Int),(j:Int),true⟩:eR)]) (enc:=oK) (w:= .slice (some ⟨b70,0,none⟩) 1 1) [2] [0] [(b70,.cells ⟨([(⟨(i:Int),(j:Int),true⟩:eR)].map oK).flatten⟩ 57 (0,0))] (aAw) (fun s _ hZ=>cg [(⟨(i:Int),(j:Int),true⟩:eR)] (hZ _ (.head _)) (by intro p hp;rfl)) (fun p _=>aj rfl) (by simp<;>omega) (fun v71 L71 ad6=>?_)
   obtain⟨aJV,aJz,aQa⟩:=ad6.form
   subst aQa
   refine gX qz []<|zD 1<|aN 8 fun yY y8 Ag=>jd 1 [2]<|dV Ag<|zD 3<|jf [0,3] (L71++Z64) (fun aLQ Yt akS=>?_)
   have hKj:=aPE _ Yt (Knows.right akS) _ _ (ad6.lq (Knows.left akS))
   have hxi:(0:Int)≤(i:Int)∧(i:Int) <K.before.length:=by omega
   have hxj:(0:Int)≤(j:Int)∧(j:Int) <K.after.length:=by omega
   have hnt:xk K.facts (i:Int) (j:Int)=false:=by assumption
   have hCj:=hC.add (t:=⟨(i:Int),(j:Int),true⟩) hf3 hxi hxj hnt
   have hVj:=hV.add (t:=⟨(i:Int),(j:Int),true⟩) hf3 hxi hxj
   have Du:=ahf (K:=K) (i:=i) (j:=j) hf3 (by omega)
   have bc8:=al3 K i j
   have t1:=apo hC hV
   refine jd 1 [1]<|M8 (vs:=[.agg ⟨[aaP,aaO,.slice aaI 0 aaH,aaN,aaM,aaL,aaK,aaJ,zI K.gone,zI K.new,zI K.ai,(.slice aJV ((K.facts++[(⟨(i:Int),(j:Int),true⟩:eR)])).length aJz)]⟩]) [] (fun _ _ h=>h) (FH (K:=cu K ⟨(i:Int),(j:Int),true⟩) hKj hCj hVj) ?_
   rintro _ _ ⟨rfl,rfl⟩
   refine jg 0 []<|zD 16<|js 84 (decide ((aX (cu K ⟨(i:Int),(j:Int),true⟩):Int) <0)) (fun PI=>?_) (fun PI=>?_)
   ·
    have Gv:=PI
    replace Gv:=of_decide_eq_true Gv
    exfalso;omega
   have Gv:=PI
   replace Gv:=of_decide_eq_false Gv
   refine zD 5<|zJ 88 ((aX (cu K ⟨(i:Int),(j:Int),true⟩):Int)>(aX K:Int)) (fun Dw=>?_) fun Dw=>?_
   ·
    exfalso;omega
   refine zD 7<|ja ((aX K:Int)-(aX (cu K ⟨(i:Int),(j:Int),true⟩):Int)) (by omega)<|jmx (k:= .i64) (a:=(aX (cu K ⟨(i:Int),(j:Int),true⟩):Int)) (b:=((aX K:Int)-(aX (cu K ⟨(i:Int),(j:Int),true⟩):Int)))<|zD 8<|zJ 96 ((max (aX (cu K ⟨(i:Int),(j:Int),true⟩):Int) ((aX K:Int)-(aX (cu K ⟨(i:Int),(j:Int),true⟩):Int))) <qw) (fun Ii=>?_) fun Ii=>?_
   ·
    refine zD 11<|ja ((j:Int)+1) (by omega)<|zD 2<|bO lL (⟨j+1,true,(i:Int),(j:Int),(max (aX (cu K ⟨(i:Int),(j:Int),true⟩):Int) ((aX K:Int)-(aX (cu K ⟨(i:Int),(j:Int),true⟩):Int)))⟩) ⟨by dsimp only;omega,by have h2:Ir (yJ K) ((aX K:Nat):Int) i j <qw:=(by simp only[Ir];omega);have:=ahg hJ.2 h2;simp only[Ir,←Du] at this;exact this⟩ (by dsimp only;omega) [2,3,4] Yt
   refine zD 4<|ja ((j:Int)+1) (by omega)<|zD 2<|bO lL (⟨j+1,qf,qa,qb,qw⟩) ⟨by dsimp only;omega,T8 hJ.2 (by simp only[Ir];omega)⟩ (by dsimp only;omega) [2,3,4] Yt
  refine zD 4<|ja ((i:Int)+1) (by omega)<|zD 2<|bO bU (⟨i+1,qf,qa,qb,qw⟩) ⟨by dsimp only;omega,by have:=hJ.2;rw[show j=K.after.length by omega] at this;exact this⟩ (by dsimp only;omega) [0,1,2] (Sub.refl _)
 refine zD 4 ?_
 have HG:=hI.2
 rw[show i=K.before.length by omega] at HG
 have fg:=MJ (m:=yJ K) (n:=((aX K:Nat):Int)) (w:=K.after.length) K.before.length
 rw[←HG] at fg hA1
 have oX:=al2 fg hA1
 refine zD 5<|zJ 102 (qw=(aX K:Int)) (fun YQ=>?_) fun YQ=>?_
 ·
  refine zD 6<|js 105 (decide (ae=11)) (fun Ts=>?_) (fun Ts=>?_)
  ·
   have Gs:=Ts
   replace Gs:=of_decide_eq_true Gs
   refine zD 4<|js 109 (decide (ax=0)) (fun Wh=>?_) (fun Wh=>?_)
   ·
    have afS:=Wh
    replace afS:=of_decide_eq_true afS
    refine zD 4<|js 113 (decide (ay=0)) (fun h20=>?_) (fun h20=>?_)
    ·
     have Gr:=h20
     replace Gr:=of_decide_eq_true Gr
     refine zD 4<|js 117 (decide (aw=0)) (fun h21=>?_) (fun h21=>?_)
     ·
      have Gq:=h21
      replace Gq:=of_decide_eq_true Gq
      refine M8 [] (fun _ _ h=>h) (Kk) ?_
      rintro _ _ ⟨rfl,rfl⟩
      refine jg 0 []<|zD 4<|Sx qC.a (.bool true) [2] [] cy ⟨rfl,rfl⟩
     have Gq:=h21
     replace Gq:=of_decide_eq_false Gq
     exfalso;omega
    have Gr:=h20
    replace Gr:=of_decide_eq_false Gr
    exfalso;omega
   have afS:=Wh
   replace afS:=of_decide_eq_false afS
   exfalso;omega
  have Gs:=Ts
  replace Gs:=of_decide_eq_false Gs
  exfalso;omega
 refine zD 7<|js 122 (decide (ae=0)) (fun Ef=>?_) (fun Ef=>?_)
 ·
  have Gp:=Ef
  replace Gp:=of_decide_eq_true Gp
  refine zD 5<|js 127 (decide (ax=qa)) (fun AU=>?_) (fun AU=>?_)
  ·
   have afQ:=AU
   replace afQ:=of_decide_eq_true afQ
   refine zD 5<|js 132 (decide (ay=qb)) (fun ZY=>?_) (fun ZY=>?_)
   ·
    have afP:=ZY
    replace afP:=of_decide_eq_true afP
    refine zD 5<|js 137 (decide (aw=qw)) (fun YP=>?_) (fun YP=>?_)
    ·
     have afN:=YP
     replace afN:=of_decide_eq_true afN
     refine M8 [] (fun _ _ h=>h) (Kk) ?_
     rintro _ _ ⟨rfl,rfl⟩
     refine jg 0 []<|zD 4<|Sx qC.a (.bool true) [2] [] cy ⟨rfl,rfl⟩
    have afN:=YP
    replace afN:=of_decide_eq_false afN
    exfalso;omega
   have afP:=ZY
   replace afP:=of_decide_eq_false afP
   exfalso;omega
  have afQ:=AU
  replace afQ:=of_decide_eq_false afQ
  exfalso;omega
 have Gp:=Ef
 replace Gp:=of_decide_eq_false Gp
 exfalso;omega
theorem FB(W:World)(hN:Dn (fun b=>W.heap[b]?) vd xs) {Post:Value→World→Prop}
 (PB:∀w:World,(∀(b:Nat) (o:Obj),W.heap[b]?=some o→w.heap[b]?=some o)→w.os=W.os→w.output=W.output→Post (.bool true) w):
 ∃N last o w' t',runNT zT (N+1) (solo (G (Frame.enter zT 4 ⟨[vd]⟩ .normal) []) W) #[]=(.ended o w',t')∧runN zT N (solo (G (Frame.enter zT 4 ⟨[vd]⟩ .normal) []) W)= .next last∧step zT last= .ended o w'∧Good zT Post last o w' t':=by
 have ha:aU ⟨fun b=>W.heap[b]?,[]⟩ W:=⟨fun _ _ h=>h,(fun _ _ h=>(by cases h)),by simp,(fun _ _ h=>(by cases h))⟩
 exact aa6 ha (aq3 hN _ _ _ fun v Y w pU oY sV Dq=>by
  obtain⟨rfl,rfl⟩:=pU
  exact PB w (fun b o hb=>oY.ro b o hb) sV Dq)
end Go.L
