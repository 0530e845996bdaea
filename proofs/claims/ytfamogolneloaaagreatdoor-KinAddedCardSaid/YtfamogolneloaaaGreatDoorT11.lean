/- Part 11 of the proof. -/
import Derived.Test.YtfamogolneloaaaGreatDoorT10
set_option maxRecDepth 100000
set_option linter.all false
namespace Go.L
open Go Go.Conc Go.Proofs
variable {ro:Nat→Option Obj} {l z z1:List Value} {K:aE} {n:Int} {T R:Nat→Nat→Int} {i b ck j q bG sz fc na r dep by1:Nat} {κ α:Type} {seen:List Nat} {F:Nat→Nat→Bool} {t:bK} {fs:List bK} {vb v0 v1 v3 v5 v6 v7 vf:Value} {ag:Bool}
def ak8[DecidableEq κ](r:Nat)(kv:κ→Value)(k:κ)(F:List (κ×Value))(b:Nat)(L:Cells):Prop:=
 ∃es ck i u,L=[(r,.map es ck)]∧tK kv F es ck∧sI k F 0=some (i,u)∧(es.toList.map (·.born))[i]?=some b
theorem ak8.own[DecidableEq κ]{kv:κ→Value}{k:κ}{F:List (κ×Value)}{L:Cells}(h:ak8 r kv k F b L):kK r kv F L:=by
 obtain⟨es,ck,_,_,h1,h2,_⟩:=h
 exact⟨es,ck,h1,h2⟩
def meV(P:Program)(n:Nat)(p:Oper)(e:Env):Option (TypeId×TypeId×Value×Value):=match p.op with
 | .mapEntry T x y=>match bh P T with
  |some ⟨.map K E,_,_,_⟩=>match bA n e x with
   |some m=>match bA n e y with
    |some k=>some (K,E,m,k)
    |none=>none
   |none=>none
  |_=>none
 |_=>none
def esV(n:Nat)(p:Oper)(e:Env):Option (Value×Value×Value):=match p.op with
 | .entryStore _ x y z=>match bA n e x with
  |some m=>match bA n e y with
   |some b=>match bA n e z with
    |some v=>some (m,b,v)
    |none=>none
   |none=>none
  |none=>none
 |_=>none
theorem BZ[DecidableEq κ]{k:κ}{v:Value}:∀ {F:List (κ×Value)} {i:Nat},sI k F i=none→sI k (F++[(k,v)]) i=some (i+F.length,v)
 | [],i,_=>by simp[sI]
 |x::l,i,h=>by
  simp only[sI] at h
  split at h
  ·cases h
  rename_i hk
  rw[List.cons_append,sI,if_neg hk,BZ h,List.length_cons,show i+1+l.length=i+(l.length+1) by omega]
theorem Yy{kv:κ→Value}{k:κ}{v:Value}:∀(es:List MapEntry) (F:List (κ×Value)) (i:Nat) {u:Value},F[i]?=some (k,u)→es.map (fun e=>(e.key,e.val))=F.map (fun x=>(kv x.1,x.2))→(es.modify i fun e=>{e with val:=v}).map (fun e=>(e.key,e.val))=(tU k v F i).map (fun x=>(kv x.1,x.2))
 | [],[],_,_,h,_=>by simp at h
 | [],_::_,_,_,_,h=>by simp at h
 |_::_,[],_,_,_,h=>by simp at h
 |e::es,x::F,0,_,h1,h=>by
  simp only[List.map_cons,List.cons.injEq,Prod.mk.injEq] at h
  simp at h1;subst h1
  simp[tU,h.2,h.1.1]
 |e::es,x::F,i+1,_,h1,h=>by
  simp only[List.map_cons,List.cons.injEq] at h
  simp at h1
  simp[tU,h.1,Yy es F i h1 h.2]
theorem Jh{v:Value}:∀(es:List MapEntry) (i:Nat),(es.modify i fun e=>{e with val:=v}).map (·.born)=es.map (·.born)
 | [],i=>by simp
 |e::es,0=>by simp
 |e::es,i+1=>by simp[Jh es i]
theorem Cg{kx:Value}:∀(es:List MapEntry) (i:Nat),(es.modify i fun e=>{e with key:=kx}).map (·.born)=es.map (·.born)
 | [],i=>by simp
 |e::es,0=>by simp
 |e::es,i+1=>by simp[Cg es i]
theorem YA{kv:κ→Value}{k:κ}:∀(es:List MapEntry) (F:List (κ×Value)) (i:Nat) {u:Value},F[i]?=some (k,u)→es.map (fun e=>(e.key,e.val))=F.map (fun x=>(kv x.1,x.2))→(es.modify i fun e=>{e with key:=kv k}).map (fun e=>(e.key,e.val))=F.map (fun x=>(kv x.1,x.2))
 | [],[],_,_,h,_=>by simp at h
 | [],_::_,_,_,_,h=>by simp at h
 |_::_,[],_,_,_,h=>by simp at h
 |e::es,x::F,0,_,h1,h=>by
  simp only[List.map_cons,List.cons.injEq,Prod.mk.injEq] at h
  simp at h1;subst h1
  simp[h.2,h.1.2]
 |e::es,x::F,i+1,_,h1,h=>by
  simp only[List.map_cons,List.cons.injEq] at h
  simp at h1
  simp[h.1,YA es F i h1 h.2]
theorem Z0{es eG:Array MapEntry}(h:∀e∈es.toList,e.born <ck)(hb:eG.toList.map (·.born)=es.toList.map (·.born)):∀e∈eG.toList,e.born <ck:=fun e he=>by
 have:e.born∈eG.toList.map (·.born):=List.mem_map_of_mem he
 rw[hb] at this
 obtain⟨e2,h3,h4⟩:=List.mem_map.1 this
 rw[←h4];exact h e2 h3
section
variable {X:Cx} {o:Option JS}
theorem jSk{β:Type}{f:Oper→Env→Option β}{r:β}{Φ:Cells→Prop}(ps:List Nat)(B:Cells)(hv:fq X.n f o=some r)(hB:eg ps o=some B)
 (hy:∀p e,f p e=some r→(∀c,p.op≠ .defer c)∧∀(R:Cells) (Q:Next→St→Prop) (E:Halt→St→Prop),(∀L',Φ L'→Q .skip ⟨X.ro,L'++R⟩)→bR X.P (execOp (ev X.n e) p) ⟨X.ro,B++R⟩ Q E)
 (hj:∀L',Φ L'→J X (nG ps undef L' o)):J X o:=by
 obtain⟨ops,i,todo,k,e,w,kn,p,rfl,ho,hw,hc⟩:=dJ hv
 intro bZ
 have hp:=bM hB
 obtain⟨hd,ht⟩:=hy p e hc
 have:ae X.C X.fn X.aA ops (i::todo) (KQ X k) (A X.n e X.D) ⟨X.ro,B++den (dO ps 0 w)⟩:=by
  refine bW X.hC ho hw hd<|ht _ _ _ fun L' qB=>?_
  have:=hj L' qB
  rw[oE ho] at this
  have:=this bZ
  simp only[JP,gG] at this
  show ae _ _ _ _ _ _ _ _
  rw[←ba] at this
  exact this
 have hle:(⟨X.ro,B++den (dO ps 0 w)⟩:St).le ⟨X.ro,den w⟩:=⟨[],by rw[List.append_nil];exact hp,fun b o hb=> .inl hb⟩
 exact this.more X.hC hle
theorem jme[DecidableEq κ]{kv:κ→Value}{F:List (κ×Value)}{K E:TypeId}{L:Cells}{d:TypeDesc}(i:Nat)(k:κ)(hk:TS X.P K kv)(te:TF X.P E d sz bG z ag)(hm:kK r kv F L)
 (hj:∀F1 b c L',(((∃u,sI k F 0=some u)∧F1=F)∨(sI k F 0=none∧F1=F++[(k,P7 z ag)]))→ak8 r kv k F1 b L'→J X (nG [i] (.tuple ⟨[c,zI (b:Int)]⟩) L' o))
 (hv:fq X.n (meV X.P X.n) o=some (K,E,.map (some r),kv k):=by kernel_rfl)(hB:eg [i] o=some L:=by kernel_rfl):J X o:=by
 refine jS (Φ:=fun v L'=>∃F1 b c,(((∃u,sI k F 0=some u)∧F1=F)∨(sI k F 0=none∧F1=F++[(k,P7 z ag)]))∧ak8 r kv k F1 b L'∧v= .tuple ⟨[c,zI (b:Int)]⟩) [i] _ hv hB (fun p e hf=>?_) (fun v L' qB=>?_)
 ·unfold meV at hf
  split at hf<;>try (cases hf;done)
  rename_i T x y az
  split at hf<;>try (cases hf;done)
  rename_i K' E' _ _ _ dX
  split at hf<;>try (cases hf;done)
  rename_i m hx
  split at hf<;>try (cases hf;done)
  rename_i k' hy
  simp only[Option.some.injEq,Prod.mk.injEq] at hf
  obtain⟨rfl,rfl,rfl,rfl⟩:=hf
  obtain⟨beU,tf⟩:=av dX
  refine⟨by rw[az];simp,fun R Q E hQ=>?_⟩
  obtain⟨es,ck,rfl,Dz⟩:=hm
  simp only[execOp,az,Instr.mapEntry,aa,bk tf,aG hx,aG hy]
  refine cO (.inr (List.mem_append_left _ List.mem_cons_self)) rfl rfl ?_
  simp only[aa]
  refine hk.chk _ _ ?_
  simp only[aa]
  refine hk.find k _ F Dz.1 ?_
  cases yD:sI k F 0 with
  |some u=>
   obtain⟨j,u⟩:=u
   have Uc:=qS yD
   simp only[Nat.sub_zero] at Uc
   have h1:(es.toList.map (fun e=>(e.key,e.val)))[j]?=some (kv k,u):=by rw[Dz.1];simp[Uc.2]
   simp only[List.getElem?_map,Array.getElem?_toList] at h1
   cases he:es[j]? with
   |none=>rw[he] at h1;cases h1
   |some e1=>
    rw[he] at h1
    simp only[Option.map_some,Option.some.injEq,Prod.mk.injEq] at h1
    simp only[aa,Instr.keyThatStays,he,Option.map_some,Option.getD_some,h1.1,hk.stay,if_true,af]
    refine eJ (L:=[]) rfl rfl rfl ?_
    simp only[af]
    refine hQ _ [(r,_)] ⟨F,e1.born,u,.inl ⟨⟨_,yD⟩,rfl⟩,⟨_,_,j,u,rfl,⟨?_,?_,?_⟩,yD,?_⟩,rfl⟩
    ·rw[Array.toList_modify];exact YA _ _ _ Uc.2 Dz.1
    ·rw[Array.toList_modify,Cg];exact Dz.2.1
    ·exact Z0 Dz.2.2 (by rw[Array.toList_modify,Cg])
    rw[Array.toList_modify,Cg,List.getElem?_map,Array.getElem?_toList,he];rfl
  |none=>
   simp only[aa,kN te]
   refine eJ (L:=[]) rfl rfl rfl ?_
   simp only[af]
   have hlen:es.toList.length=F.length:=by have:=congrArg List.length Dz.1;simpa using this
   refine hQ _ [(r,_)] ⟨_,ck,_,.inr ⟨yD,rfl⟩,⟨_,_,F.length,_,rfl,⟨?_,?_,?_⟩,by have:=BZ (v:=P7 z ag) yD;rwa[Nat.zero_add] at this,?_⟩,rfl⟩
   ·simp only[Array.toList_push,List.map_append,Dz.1];rfl
   ·simp only[Array.toList_push,List.map_append,List.map_cons,List.map_nil]
    refine List.nodup_append.2 ⟨Dz.2.1,by simp,?_⟩
    intro a ha b hb
    obtain⟨e2,h3,rfl⟩:=List.mem_map.1 ha
    have:=Dz.2.2 e2 h3
    simp only[List.mem_singleton] at hb
    omega
   ·intro e1 h1
    simp only[Array.toList_push,List.mem_append,List.mem_singleton] at h1
    rcases h1 with h1|rfl
    ·have:=Dz.2.2 e1 h1;omega
    exact Nat.lt_succ_self _
   simp only[Array.toList_push,List.map_append,List.map_cons,List.map_nil]
   rw[List.getElem?_append_right (by simp[hlen])]
   simp[hlen]
 obtain⟨F1,b,c,h1,h2,rfl⟩:=qB
 exact hj F1 b c L' h1 h2
theorem jes[DecidableEq κ]{kv:κ→Value}{F:List (κ×Value)}{L:Cells}{k:κ}(i:Nat)(v:Value)(hm:ak8 r kv k F b L)(hj:∀L',kK r kv (mN k v F) L'→J X (nG [i] undef L' o))
 (hv:fq X.n (esV X.n) o=some (.map (some r),zI (b:Int),v):=by kernel_rfl)(hB:eg [i] o=some L:=by kernel_rfl):J X o:=by
 refine jSk (Φ:=kK r kv (mN k v F)) [i] _ hv hB (fun p e hf=>?_) hj
 unfold esV at hf
 split at hf<;>try (cases hf;done)
 rename_i T x y zz az
 split at hf<;>try (cases hf;done)
 rename_i m hx
 split at hf<;>try (cases hf;done)
 rename_i b' hy
 split at hf<;>try (cases hf;done)
 rename_i v' hz
 simp only[Option.some.injEq,Prod.mk.injEq] at hf
 obtain⟨rfl,rfl,rfl⟩:=hf
 refine⟨by rw[az];simp,fun R Q E hQ=>?_⟩
 obtain⟨es,ck,j,u,rfl,Dz,yD,hb⟩:=hm
 have Uc:=qS yD
 simp only[Nat.sub_zero] at Uc
 simp only[execOp,az,Instr.entryStore,aa,aG hx,aG hy,aG hz]
 refine cO (.inr (List.mem_append_left _ List.mem_cons_self)) rfl rfl ?_
 have aQ6:es.findIdx? (fun e=>(e.born:Int)==(b:Int))=some j:=by
  rw[List.getElem?_map,Array.getElem?_toList] at hb
  obtain⟨e1,he,rfl⟩:=Option.map_eq_some_iff.1 hb
  obtain⟨h1,h2⟩:=Array.getElem?_eq_some_iff.1 he
  refine Array.findIdx?_eq_some_iff_getElem.2 ⟨h1,by simp[h2],fun q hq=>?_⟩
  have mG:=Dz.2.1
  have:=List.pairwise_iff_getElem.1 mG q j (by simp;omega) (by simp;omega) hq
  simp only[List.getElem_map,Array.getElem_toList,h2] at this
  simp only[beq_iff_eq]
  omega
 simp only[aa,asInt,asIntOf,af,aQ6]
 refine eJ (L:=[]) rfl rfl rfl ?_
 show Q .skip _
 refine hQ [(r,_)] ⟨_,_,rfl,?_,?_,?_⟩
 ·rw[Array.toList_modify,mN,yD];exact Yy _ _ _ Uc.2 Dz.1
 ·rw[Array.toList_modify,Jh];exact Dz.2.1
 exact Z0 Dz.2.2 (by rw[Array.toList_modify,Jh])
end
abbrev v4(a b c d:Int):Value:= .agg ⟨[zI a,zI b,zI c,zI d]⟩
theorem aHx{P:Program}{T:TypeId}(tf:TF P T (.array 4 3) sz bG z ag)(t3:TF P 3 (.int .i64) 1 by1 z1 false)(a b c d a' b' c' d':Int):
 EqD P (dep+2) T (v4 a b c d) (v4 a' b' c' d') (a==a'&&(b==b'&&(c==c'&&(d==d'&&true)))):=by
 intro α s k Q E
 rw[Op.equalIn]
 simp only[aa,bk tf,cE t3]
 simp only[Std.Legacy.Range.forIn_eq_forIn_range',Std.Legacy.Range.size,Nat.sub_zero,Nat.add_sub_cancel,Nat.div_one,List.range'_succ,List.range'_zero,List.forIn_cons,List.forIn_nil,aa,Nat.zero_add,Nat.mul_one]
 have p (l:List Value) (o:Nat) (v:Value) (h:nth l o=some v):Jy P 3 l o v:=cg t3 h
 rw[p _ 0 (zI a) rfl];simp only[aa]
 rw[p _ 0 (zI a') rfl];simp only[aa]
 rw[gk t3 a a']
 cases ha:a==a' with
 |false=>simp only[Bool.not_false,if_true,af,aa,Bool.false_and]
 |true=>
 simp only[Bool.not_true,Bool.false_eq_true,if_false,af,Bool.true_and,aa]
 rw[p _ 1 (zI b) rfl];simp only[aa]
 rw[p _ 1 (zI b') rfl];simp only[aa]
 rw[gk t3 b b']
 cases hb:b==b' with
 |false=>simp only[Bool.not_false,if_true,af,aa,Bool.false_and]
 |true=>
 simp only[Bool.not_true,Bool.false_eq_true,if_false,af,Bool.true_and,aa]
 rw[p _ 2 (zI c) rfl];simp only[aa]
 rw[p _ 2 (zI c') rfl];simp only[aa]
 rw[gk t3 c c']
 cases hc:c==c' with
 |false=>simp only[Bool.not_false,if_true,af,aa,Bool.false_and]
 |true=>
 simp only[Bool.not_true,Bool.false_eq_true,if_false,af,Bool.true_and,aa]
 rw[p _ 3 (zI d) rfl];simp only[aa]
 rw[p _ 3 (zI d') rfl];simp only[aa]
 rw[gk t3 d d']
 cases hd:d==d' with
 |false=>simp only[Bool.not_false,if_true,af,aa,Bool.false_and]
 |true=>simp only[Bool.not_true,Bool.false_eq_true,if_false,af,Bool.true_and,aa]
theorem ck4{P:Program}{T:TypeId}(tf:TF P T (.array 4 3) sz bG z ag)(t3:TF P 3 (.int .i64) 1 by1 z1 false)(a b c d:Int):CkD P (dep+2) T (v4 a b c d):=by
 intro bb α K s Q E
 rw[Instr.checkKey]
 simp only[aa,bk tf]
 simp only[Std.Legacy.Range.forIn_eq_forIn_range',Std.Legacy.Range.size,Nat.sub_zero,Nat.add_sub_cancel,Nat.div_one,List.range'_succ,List.range'_zero,List.forIn_cons,List.forIn_nil,aa,Nat.zero_add,cE t3,Nat.zero_mul,Nat.mul_one]
 have p (l:List Value) (o:Nat) (v:Value) (h:nth l o=some v):Jy P 3 l o v:=cg t3 h
 rw[p _ 0 (zI a) rfl];simp only[aa];rw[I6 t3 a bb];simp only[af,aa,cE t3,Nat.mul_one]
 rw[p _ 1 (zI b) rfl];simp only[aa];rw[I6 t3 b bb];simp only[af,aa,cE t3,Nat.mul_one]
 rw[p _ 2 (zI c) rfl];simp only[aa];rw[I6 t3 c bb];simp only[af,aa,cE t3,Nat.mul_one]
 rw[p _ 3 (zI d) rfl];simp only[aa];rw[I6 t3 d bb];simp only[af,aa]
abbrev P4:=Int×Int×Int×Int
abbrev JE(x:P4):Value:=v4 x.1 x.2.1 x.2.2.1 x.2.2.2
theorem ags:TS zT 113 JE:=agq (ig Tryz.typeInfo113 Tryz.underlying113 rfl rfl rfl rfl rfl rfl) (fun k=>⟨_,rfl⟩)
 (fun k=>ck4 (dep:=9998) (ig Tryz.typeInfo113 Tryz.underlying113 rfl rfl rfl rfl rfl rfl) fw _ _ _ _)
 (fun a b=>by
  have h:=aHx (dep:=9998) (ig Tryz.typeInfo113 Tryz.underlying113 rfl rfl rfl rfl rfl rfl) fw a.1 a.2.1 a.2.2.1 a.2.2.2 b.1 b.2.1 b.2.2.1 b.2.2.2
  have e:(a.1==b.1&&(a.2.1==b.2.1&&(a.2.2.1==b.2.2.1&&(a.2.2.2==b.2.2.2&&true))))=decide (a=b):=by
   rcases a with ⟨x,y,z,t⟩;rcases b with ⟨u,v,w,r⟩
   rw[Bool.eq_iff_iff];simp
  rwa[e] at h)
 (fun k=>by simp[Instr.sameBits])
structure fy where
 c:Nat→Nat→Int
abbrev AD(m:fy):List Value:=[zI (m.c 0 0),zI (m.c 0 1),zI (m.c 0 2),zI (m.c 0 3),zI (m.c 1 0),zI (m.c 1 1),zI (m.c 1 2),zI (m.c 1 3),zI (m.c 2 0),zI (m.c 2 1),zI (m.c 2 2),zI (m.c 2 3),zI (m.c 3 0),zI (m.c 3 1),zI (m.c 3 2),zI (m.c 3 3)]
theorem BC{m:fy}{a:Nat}(h:a <4)(k:b <4):nth (AD m) (0+(a:Int).toNat*4+(b:Int).toNat*1)=some (zI (m.c a b)):=by
 rcases BE h with rfl|rfl|rfl|rfl<;>rcases BE k with rfl|rfl|rfl|rfl<;>rfl
def r5(m:fy)(a b:Nat)(v:Int):fy:=⟨fun i j=>if i=a∧j=b then v else m.c i j⟩
theorem anj{m:fy}{a:Nat}{v:Int}(h:a <4)(k:b <4):dK (AD m) (0+(a:Int).toNat*4+(b:Int).toNat*1) [zI v]=AD (r5 m a b v):=by
 rcases BE h with rfl|rfl|rfl|rfl<;>rcases BE k with rfl|rfl|rfl|rfl<;>rfl
theorem ank{m:fy}{a:Nat}{v:Value}(h:a <4)(k:b <4):Nat.ble ((0+(a:Int).toNat*4+(b:Int).toNat*1)+[v].length) (AD m).length=true:=by
 rcases BE h with rfl|rfl|rfl|rfl<;>rcases BE k with rfl|rfl|rfl|rfl<;>rfl
def pI(x:aj):Nat→Int
 |0=>x.w0
 |1=>x.w1
 |2=>x.w2
 |_=>x.w3
def ax(zs:List aj):fy:=⟨fun i j=>((zs.filter fun x=>decide (pI x i=(j:Int)+1)).length:Int)⟩
theorem D5(zs:List aj)(i j:Nat):0≤(ax zs).c i j∧(ax zs).c i j≤zs.length:=by
 have:=List.length_filter_le (fun x=>decide (pI x i=(j:Int)+1)) zs
 simp only[ax];omega
theorem xm{zs ys:List aj}(h:zs.Perm ys):ax zs=ax ys:=by
 simp only[ax,(h.filter _).length_eq]
theorem xQ{r:bD}{p:Nat→Int}(hp:∀i,0≤p i∧p i≤4)(q:Nat):0≤pI (cB K r i p) q∧pI (cB K r i p) q≤4:=match q with
 |0=>hp 0
 |1=>hp 1
 |2=>hp 2
 |_+3=>hp 3
def q6:Prop:=∀ {ro:Nat→Option Obj} {v:Value} {zs:List aj},a8 ro v 8 cG zs→zs.length≤100000→(∀x∈zs,∀q,0≤pI x q∧pI x q≤4)→dQ zT 54 [v] ro [] (fun r Y=>r= .agg ⟨AD (ax zs)⟩∧Y=[])
def ni(m:fy)(n:Int)(i:Nat):Nat→List (List Int)
 |0=>[]
 |j+1=>ni m n i j++(bif decide (m.c i j=n) then [[(i:Int),(j:Int)]] else [])
def pO(m:fy)(n:Int)(w:Nat):Nat→List (List Int)
 |0=>[]
 |i+1=>pO m n w i++ni m n i w
theorem Yt{m:fy}(h:m.c i j=n):ni m n i (j+1)=ni m n i j++[[(i:Int),(j:Int)]]:=by rw[ni,decide_eq_true h];rfl
theorem Yu{m:fy}(h:¬m.c i j=n):ni m n i (j+1)=ni m n i j:=by rw[ni,decide_eq_false h];exact List.append_nil _
theorem Dh(m:fy)(n:Int)(i:Nat):∀j,(ni m n i j).length≤j
 |0=>Nat.le_refl _
 |j+1=>by have:=Dh m n i j;rw[ni,List.length_append];cases decide (m.c i j=n)<;>simp<;>omega
theorem Mk(m:fy)(n:Int){w:Nat}(hw:w≤4):∀i,(pO m n w i).length≤4*i
 |0=>Nat.le_refl _
 |i+1=>by have:=Mk m n hw i;have:=Dh m n i w;rw[pO,List.length_append];omega
theorem anI{rows:List bD}(hK:eR ro l K)(hV:eH K)(hR:rows.length≤2)(hB:iz ro l K rows)(hCt:q6):CH zT 63 [.agg ⟨l⟩,.func (.func 65) ⟨[]⟩ ⟨[]⟩] ro [] (fun r Y=>∃zs v e,zs.Perm (cW K (aQ K) (cw K.gone K.new K.ab) rows)∧r= .tuple ⟨[v,zI e]⟩∧((zs=[]∧v= zS∧e=9∧Y=[])∨(zs≠[]∧e=0∧∀aC,Knows aC Y→LL aC v (pO (ax zs) ((zs.length:Nat):Int) K.after.length K.before.length)))):=by
 obtain⟨v0,v1,v3,v4,v5,v6,v7,vb,fa,fc,hv,rfl,_⟩:=id hK
 refine Ad ar [] [] aU fun fr=>zD 2<|jn fun b2=>jd 6 [0]<|anS (vs:=[.agg ⟨[v0,v1,.slice fa 0 fc,v3,v4,v5,v6,v7,zI K.gone,zI K.new,zI K.ab,vb]⟩]) [] (fun _ _ h=>h) (YP hK hV hR hB) ?_
 rintro _ aF Y15 bL ⟨f15,zs,v15,e15,rfl,yE,hz,ahS,he⟩
 have Ku:∀x∈zs,(-4≤x.gone∧x.gone≤4)∧(-4≤x.new∧x.new≤4)∧(0≤x.ab∧x.ab≤4):=fun x hx=>by obtain⟨i,r,p,_,_,rfl,_⟩:=eP (hz.mem_iff.1 hx);exact lg hV r i p
 have VD:zs.length≤1250:=by rw[hz.length_eq];exact lX hV _ _ hR
 have hpr:∀x∈zs,∀q,0≤pI x q∧pI x q≤4:=fun x hx=>by obtain⟨i,r,p,_,hp,rfl,_⟩:=eP (hz.mem_iff.1 hx);exact xQ ((gp hV _).2 p hp)
 obtain⟨d0,d1,d2,d3,d4,d5,d6,d7,d8,d9,dh,hf,nF,mH,hr,DG,It,KA,bX⟩:=id yE
 obtain⟨k7,Kh,Kc,kF,rfl,Kg,Fi,Fh⟩:=DG
 obtain⟨k8,Kk,Ki,kG,rfl,Kj,Fq,Fp⟩:=It
 have BO:=hV.before.1
 have EM:=hV.after.1
 refine zD 7<|jf [0] Y15 (fun ro4 oC Zn=>?_)
 have Wc:=ahS.jC Zn
 obtain⟨mZ,C8,C6,mg,rfl,C7,zr,zq⟩:=Wc
 refine zD 7<|js 20 (!decide (e15=0)) (fun h5=>?_) (fun h5=>?_)
 ·
  replace h5:=of_decide_eq_false (by simpa using h5)
  have pg:zs=[]∧e15=9:=by rcases he with h| ⟨_,h⟩;exact h;omega
  refine zD 8<|Fx qC.a.a (.tuple ⟨[zS,zI e15]⟩) [1] [] (bL.trans oC) ⟨zs,_,_,hz,rfl,.inl ⟨pg.1,rfl,pg.2,rfl⟩⟩
 replace h5:=of_decide_eq_true (by simpa using h5)
 have pg:zs≠[]∧e15=0:=by rcases he with ⟨_,h⟩|h;omega;exact h
 refine zD 9<|jc (vs:=[.slice mZ zs.length mg]) [] (hCt (show a8 _ _ _ _ _ from ⟨mZ,C8,C6,mg,rfl,C7,zr,zq⟩) (by omega) hpr) ?_
 rintro _ _ ⟨rfl,rfl⟩
 refine jg 0 []<|jn fun lV=>jd 9 [0]<|jl (b:=f15) (off:=0) (m:=13) (vs:=[d0,d1,d2,d3,d4,d5,.slice k7 K.before.length kF,.slice k8 K.after.length kG,zI K.gone,zI K.new,zI K.ab,d8,d9]) 6 ⟨_,_,_,.inl (oC _ _ hf),rfl⟩<|zD 4<|nB<|nB<|dL [1,1,1,1,1,0,1,0,0] [] (fun(zz:Nat×Value×Cells×(List Value)×Cells)=>[(1,.func (.func 65) ⟨[]⟩ ⟨[]⟩),(4,zS),(5,zI 0),(6,zP f15),(7,.slice mZ zs.length mg),(9,zz.2.1),(10,zP lV),(29,zI (K.before.length:Int)),(30,zI (zz.1:Int))]) (fun zz=>[.l zz.2.2.1,.l zz.2.2.2.2,.b lV (.cells ⟨[zI ((ax zs).c 0 0),zI ((ax zs).c 0 1),zI ((ax zs).c 0 2),zI ((ax zs).c 0 3),zI ((ax zs).c 1 0),zI ((ax zs).c 1 1),zI ((ax zs).c 1 2),zI ((ax zs).c 1 3),zI ((ax zs).c 2 0),zI ((ax zs).c 2 1),zI ((ax zs).c 2 2),zI ((ax zs).c 2 3),zI ((ax zs).c 3 0),zI ((ax zs).c 3 1),zI ((ax zs).c 3 2),zI ((ax zs).c 3 3)]⟩ 123 (0,0)),.b b2 (.cells ⟨[v0,v1,.slice fa 0 fc,v3,v4,v5,v6,v7,zI K.gone,zI K.new,zI K.ab,vb]⟩ 40 (0,0)),.l fr]) (fun zz=>(zz.1≤K.before.length∧zz.2.2.2.1.length=(pO (ax zs) ((zs.length:Nat):Int) K.after.length zz.1).length)∧aw zz.2.1 1 22 fB zz.2.2.2.1 zz.2.2.1∧∀aC,Knows aC zz.2.2.2.2→dc (fun w l=>a8 aC w 1 cD l) zz.2.2.2.1 (pO (ax zs) ((zs.length:Nat):Int) K.after.length zz.1)) (fun zz=>K.before.length-zz.1) (⟨0,zS,[],[],[]⟩) ⟨⟨by dsimp only;omega,rfl⟩,aw.nil _ _ _,fun _ _=> .nil⟩ [1,0,2,3,4] ?_
 rintro⟨i,vO,LO,es,Z⟩ hI K1 bE rest
 dsimp only at hI
 have hil:=Mk (ax zs) ((zs.length:Nat):Int) (w:=K.after.length) (by omega) i
 refine zD 5<|zJ 31 ((i:Int) <(K.before.length:Int)) (fun h6=>?_) fun h6=>?_
 ·
  refine zD 15<|jl (b:=f15) (off:=0) (m:=13) (vs:=[d0,d1,d2,d3,d4,d5,.slice k7 K.before.length kF,.slice k8 K.after.length kG,zI K.gone,zI K.new,zI K.ab,d8,d9]) 7 ⟨_,_,_,.inl (oC _ _ hf),rfl⟩<|zD 4<|dL [1,1,1,1,1,0,1,0,0,1,1,0,0,1,1,0,0] [K1] (fun(zz:Nat×Value×Cells×(List Value)×Cells)=>[(1,.func (.func 65) ⟨[]⟩ ⟨[]⟩),(4,zS),(5,zI 0),(6,zP f15),(7,.slice mZ zs.length mg),(9,zz.2.1),(10,zP lV),(11,zI (i:Int)),(29,zI (K.before.length:Int)),(30,zI (i:Int)),(38,zI (K.after.length:Int)),(39,zI (zz.1:Int))]) (fun zz=>[.l zz.2.2.1,.l zz.2.2.2.2,.b lV (.cells ⟨[zI ((ax zs).c 0 0),zI ((ax zs).c 0 1),zI ((ax zs).c 0 2),zI ((ax zs).c 0 3),zI ((ax zs).c 1 0),zI ((ax zs).c 1 1),zI ((ax zs).c 1 2),zI ((ax zs).c 1 3),zI ((ax zs).c 2 0),zI ((ax zs).c 2 1),zI ((ax zs).c 2 2),zI ((ax zs).c 2 3),zI ((ax zs).c 3 0),zI ((ax zs).c 3 1),zI ((ax zs).c 3 2),zI ((ax zs).c 3 3)]⟩ 123 (0,0)),.b b2 (.cells ⟨[v0,v1,.slice fa 0 fc,v3,v4,v5,v6,v7,zI K.gone,zI K.new,zI K.ab,vb]⟩ 40 (0,0)),.l fr]) (fun zz=>(zz.1≤K.after.length∧zz.2.2.2.1.length=((pO (ax zs) ((zs.length:Nat):Int) K.after.length i)++(ni (ax zs) ((zs.length:Nat):Int) i zz.1)).length)∧aw zz.2.1 1 22 fB zz.2.2.2.1 zz.2.2.1∧∀aC,Knows aC zz.2.2.2.2→dc (fun w l=>a8 aC w 1 cD l) zz.2.2.2.1 ((pO (ax zs) ((zs.length:Nat):Int) K.after.length i)++(ni (ax zs) ((zs.length:Nat):Int) i zz.1))) (fun zz=>K.after.length-zz.1) (⟨0,vO,LO,es,Z⟩) ⟨⟨by dsimp only;omega,by simpa [ni] using hI.1.2⟩,hI.2.1,by simpa [ni] using hI.2.2⟩ (zN 0 5) ?_
  rintro⟨j,vO,LO,es,Z⟩ hJ K2 lG rest
  dsimp only at hJ
  have hjl:=Dh (ax zs) ((zs.length:Nat):Int) i j
  have Zq:=hJ.1.2
  rw[List.length_append] at Zq
  refine zD 5<|zJ 40 ((j:Int) <(K.after.length:Int)) (fun h7=>?_) fun h7=>?_
  ·
   refine zD 10 ?_
   have iZ:=D5 zs i j
   refine zD 4<|HN (b:=lV) (off:=0) (len:=4) (sz:=4) (i:Int) (by omega)<|HN (b:=lV) (off:=0+(i:Int).toNat*4) (len:=4) (sz:=1) (j:Int) (by omega)<|oQ (b:=lV) (off:=0+(i:Int).toNat*4+(j:Int).toNat*1) (m:=1) (vs:=[zI ((ax zs).c i j)]) 0 [2] [(lV,.cells ⟨[zI ((ax zs).c 0 0),zI ((ax zs).c 0 1),zI ((ax zs).c 0 2),zI ((ax zs).c 0 3),zI ((ax zs).c 1 0),zI ((ax zs).c 1 1),zI ((ax zs).c 1 2),zI ((ax zs).c 1 3),zI ((ax zs).c 2 0),zI ((ax zs).c 2 1),zI ((ax zs).c 2 2),zI ((ax zs).c 2 3),zI ((ax zs).c 3 0),zI ((ax zs).c 3 1),zI ((ax zs).c 3 2),zI ((ax zs).c 3 3)]⟩ 123 (0,0))] (fun s _ hZ=>oN (hZ _ (.head _)) (BC (m:=ax zs) (by omega) (by omega)))<|zD 2<|jp (vs:=[zI ((ax zs).c i j),zI (zs.length:Int)]) [] [] (fun aF hs hZ=>avo)<|zD 1<|js 50 (decide (((ax zs).c i j)=(zs.length:Int))) (fun h8=>?_) (fun h8=>?_)
   ·
    refine zD 5<|jn fun TE=>jn fun b55=>gL (sz:=1) (ps:=es) (qs:=[(.slice (some ⟨TE,0,none⟩) 2 2:Value)]) (enc:=fB) (w:= .slice (some ⟨b55,0,none⟩) 1 1) [2] [0] [(b55,.cells ⟨([(.slice (some ⟨TE,0,none⟩) 2 2:Value)].map fB).flatten⟩ 22 (0,0))] (hJ.2.1) (fun s _ hZ=>bN [(.slice (some ⟨TE,0,none⟩) 2 2:Value)] (hZ _ (.head _)) (by intro p hp;rfl)) (by intro p hp;rw[List.mem_singleton] at hp;subst hp;exact ah rfl) (by simp only[List.length_cons,List.length_nil];omega) (fun v56 L56 qF=>?_)
    obtain⟨Qk,Qh,DF⟩:=qF.form
    subst DF
    refine zD 3<|ja ((j:Int)+1) (by omega)<|zD 2<|HM lG (⟨j+1,(.slice Qk ((es++[(.slice (some ⟨TE,0,none⟩) 2 2:Value)])).length Qh),L56,(es++[(.slice (some ⟨TE,0,none⟩) 2 2:Value)]),Z++[(TE,.cells ⟨[zI (i:Int),zI (j:Int)]⟩ 3 (0,0))]⟩) ⟨⟨by dsimp only;omega,by dsimp only;rw[Yt (of_decide_eq_true (by assumption)),←List.append_assoc];simp only[zM] at*;omega⟩,qF,fun aC hk=>by dsimp only;rw[Yt (of_decide_eq_true (by assumption)),←List.append_assoc];exact(hJ.2.2 aC hk.left).snoc (bV (enc:=cD) (T:=3) [(i:Int),(j:Int)] (hk.right _ (.head _)) (fun _ _=>rfl))⟩ (by dsimp only;omega) [[0],[3,2],[4],[5],[6]] (Sub.refl _)
   refine zD 3<|ja ((j:Int)+1) (by omega)<|zD 2<|bF lG (⟨j+1,vO,LO,es,Z⟩) ⟨⟨by dsimp only;omega,by dsimp only;rw[Yu (of_decide_eq_false (by assumption))];exact hJ.1.2⟩,hJ.2.1,by dsimp only;rw[Yu (of_decide_eq_false (by assumption))];exact hJ.2.2⟩ (by dsimp only;omega) (zN 0 5) (Sub.refl _)
  refine zD 3<|ja ((i:Int)+1) (by omega)<|zD 2<|bF bE (⟨i+1,vO,LO,es,Z⟩) ⟨⟨by dsimp only;omega,by have:=hJ.1.2;rw[show j=K.after.length by omega] at this;exact this⟩,hJ.2.1,by have:=hJ.2.2;rw[show j=K.after.length by omega] at this;exact this⟩ (by dsimp only;omega) (zN 0 5) (Sub.refl _)
 refine zD 9<|aD1 qC.a.a (.tuple ⟨[vO,zI 0]⟩) [0,1,4] LO Z (bL.trans oC) ⟨zs,_,_,hz,rfl,.inr ⟨pg.1,rfl,fun aC hk=>⟨es,hI.2.1.jC hk.left,by have:=hI.2.2 aC hk.right;rwa[show i=K.before.length by omega] at this⟩⟩⟩
structure xE where
 f:Bool
 a:Int
 b:Int
 w:Int
def acE(m:fy)(n:Int)(i j:Nat):Int:=max (m.c i j) (n-m.c i j)
def Cj(m:fy)(n:Int)(i:Nat)(s:xE):Nat→xE
 |0=>s
 |j+1=>if acE m n i j <(Cj m n i s j).w then ⟨true,i,j,acE m n i j⟩ else Cj m n i s j
def acF(m:fy)(n:Int)(w:Nat):Nat→xE
 |0=>⟨false,0,0,n⟩
 |i+1=>Cj m n i (acF m n w i) w
def W7(s:xE):Int×Int×Int×Int:=bif s.f then (s.a,s.b,s.w,0) else (0,0,0,11)
theorem ayU{m:fy}{s:xE}{f:Bool}{a b w:Int}(h:(⟨f,a,b,w⟩:xE)=Cj m n i s j)(h2:acE m n i j <w):(⟨true,i,j,acE m n i j⟩:xE)=Cj m n i s (j+1):=by rw[Cj,←h,if_pos h2]
theorem akI{m:fy}{s:xE}{f:Bool}{a b w:Int}(h:(⟨f,a,b,w⟩:xE)=Cj m n i s j)(h2:¬acE m n i j <w):(⟨f,a,b,w⟩:xE)=Cj m n i s (j+1):=by rw[Cj,←h,if_neg h2]
theorem avn{rows:List bD}(hK:eR ro l K)(hV:eH K)(hR:rows.length≤2)(hB:iz ro l K rows)(hCt:q6):CH zT 22 [.agg ⟨l⟩] ro [] (fun r Y=>∃zs v e,zs.Perm (cW K (aQ K) (cw K.gone K.new K.ab) rows)∧r= .tuple ⟨[v,zI e]⟩∧((zs=[]∧v= zS∧e=9∧Y=[])∨(zs≠[]∧e=0∧∀aC,Knows aC Y→LL aC v (pO (ax zs) ((zs.length:Nat):Int) K.after.length K.before.length)))):=by
 obtain⟨v0,v1,v3,v4,v5,v6,v7,vb,fa,fc,hv,rfl,_⟩:=id hK
 refine Ad ar [] [] aU fun fr=>zD 2<|jn fun b1=>jd 6 [0]<|JF (vs:=[.agg ⟨[v0,v1,.slice fa 0 fc,v3,v4,v5,v6,v7,zI K.gone,zI K.new,zI K.ab,vb]⟩,.func (.func 65) ⟨[]⟩ ⟨[]⟩]) [] (fun _ _ h=>h) (anI hK hV hR hB hCt) ?_
 rintro _ Y5 ⟨zs,v5,e5,hz,rfl,hcs⟩
 refine zD 6<|Fx qC (.tuple ⟨[v5,zI e5]⟩) [0,2] Y5 (Sub.refl _) ⟨zs,v5,e5,hz,rfl,hcs⟩
theorem aOH{rows:List bD}(hK:eR ro l K)(hV:eH K)(hR:rows.length≤2)(hB:iz ro l K rows)(hCt:q6):CH zT 40 [.agg ⟨l⟩] ro [] (fun r Y=>∃zs a b w e,zs.Perm (cW K (aQ K) (cw K.gone K.new K.ab) rows)∧Y=[]∧r= .tuple ⟨[zI a,zI b,zI w,zI e]⟩∧((zs=[]∧a=0∧b=0∧w=0∧e=9)∨(zs≠[]∧(a,b,w,e)=W7 (acF (ax zs) ((zs.length:Nat):Int) K.after.length K.before.length)))):=by
 obtain⟨v0,v1,v3,v4,v5,v6,v7,vb,fa,fc,hv,rfl,_⟩:=id hK
 refine Ad ar [] [] aU fun fr=>zD 2<|jn fun b1=>jd 8 [0]<|anS (vs:=[.agg ⟨[v0,v1,.slice fa 0 fc,v3,v4,v5,v6,v7,zI K.gone,zI K.new,zI K.ab,vb]⟩]) [] (fun _ _ h=>h) (YP hK hV hR hB) ?_
 rintro _ aF Y14 bL ⟨f14,zs,v14,O9,rfl,yE,hz,Oz,he⟩
 have Ku:∀x∈zs,(-4≤x.gone∧x.gone≤4)∧(-4≤x.new∧x.new≤4)∧(0≤x.ab∧x.ab≤4):=fun x hx=>by obtain⟨i,r,p,_,_,rfl,_⟩:=eP (hz.mem_iff.1 hx);exact lg hV r i p
 have VD:zs.length≤1250:=by rw[hz.length_eq];exact lX hV _ _ hR
 have hpr:∀x∈zs,∀q,0≤pI x q∧pI x q≤4:=fun x hx=>by obtain⟨i,r,p,_,hp,rfl,_⟩:=eP (hz.mem_iff.1 hx);exact xQ ((gp hV _).2 p hp)
 obtain⟨d0,d1,d2,d3,d4,d5,d6,d7,d8,d9,dh,hf,nF,mH,hr,DG,It,KA,bX⟩:=id yE
 obtain⟨k7,Kh,Kc,kF,rfl,Kg,Fi,Fh⟩:=DG
 obtain⟨k8,Kk,Ki,kG,rfl,Kj,Fq,Fp⟩:=It
 have BO:=hV.before.1
 have EM:=hV.after.1
 refine zD 7<|jf [0] Y14 (fun ro4 oC Zn=>?_)
 have Wc:=Oz.jC Zn
 obtain⟨mZ,C8,C6,mg,rfl,C7,zr,zq⟩:=Wc
 refine zD 7<|js 20 (!decide (O9=0)) (fun h5=>?_) (fun h5=>?_)
 ·
  replace h5:=of_decide_eq_false (by simpa using h5)
  have pg:zs=[]∧O9=9:=by rcases he with h| ⟨_,h⟩;exact h;omega
  refine zD 10<|Fx qC.a.a (.tuple ⟨[zI 0,zI 0,zI 0,zI O9]⟩) [1] [] (bL.trans oC) ⟨zs,_,_,_,_,hz,rfl,rfl,.inl ⟨pg.1,rfl,rfl,rfl,pg.2⟩⟩
 replace h5:=of_decide_eq_true (by simpa using h5)
 have pg:zs≠[]∧O9=0:=by rcases he with ⟨_,h⟩|h;omega;exact h
 refine zD 5<|jc (vs:=[.slice mZ zs.length mg]) [] (hCt (show a8 _ _ _ _ _ from ⟨mZ,C8,C6,mg,rfl,C7,zr,zq⟩) (by omega) hpr) ?_
 rintro _ _ ⟨rfl,rfl⟩
 refine jg 0 []<|jn fun b8=>jd 16 [0]<|jl (b:=f14) (off:=0) (m:=13) (vs:=[d0,d1,d2,d3,d4,d5,.slice k7 K.before.length kF,.slice k8 K.after.length kG,zI K.gone,zI K.new,zI K.ab,d8,d9]) 6 ⟨_,_,_,.inl (oC _ _ hf),rfl⟩<|zD 4<|dL [1,1,1,1,1,0,1,0,0] [] (fun(zz:Nat×Bool×Int×Int×Int)=>[(2,zI zz.2.2.1),(3,zI zz.2.2.2.1),(4,zI zz.2.2.2.2),(5,zI O9),(6,zP f14),(7,.slice mZ zs.length mg),(8,zP b8),(9,.bool zz.2.1),(31,zI (K.before.length:Int)),(32,zI (zz.1:Int))]) (fun zz=>[.b b8 (.cells ⟨[zI ((ax zs).c 0 0),zI ((ax zs).c 0 1),zI ((ax zs).c 0 2),zI ((ax zs).c 0 3),zI ((ax zs).c 1 0),zI ((ax zs).c 1 1),zI ((ax zs).c 1 2),zI ((ax zs).c 1 3),zI ((ax zs).c 2 0),zI ((ax zs).c 2 1),zI ((ax zs).c 2 2),zI ((ax zs).c 2 3),zI ((ax zs).c 3 0),zI ((ax zs).c 3 1),zI ((ax zs).c 3 2),zI ((ax zs).c 3 3)]⟩ 123 (0,0)),.b b1 (.cells ⟨[v0,v1,.slice fa 0 fc,v3,v4,v5,v6,v7,zI K.gone,zI K.new,zI K.ab,vb]⟩ 40 (0,0)),.l fr]) (fun zz=>zz.1≤K.before.length∧(⟨zz.2.1,zz.2.2.1,zz.2.2.2.1,zz.2.2.2.2⟩:xE)=(acF (ax zs) ((zs.length:Nat):Int) K.after.length zz.1)) (fun zz=>K.before.length-zz.1) (⟨0,false,0,0,((zs.length:Nat):Int)⟩) ⟨by dsimp only;omega,rfl⟩ [0,1,2] ?_
 rintro⟨i,qf,qa,qb,qw⟩ hI K1 bE rest
 dsimp only at hI
 refine zD 5<|zJ 33 ((i:Int) <(K.before.length:Int)) (fun h6=>?_) fun h6=>?_
 ·
  refine zD 15<|jl (b:=f14) (off:=0) (m:=13) (vs:=[d0,d1,d2,d3,d4,d5,.slice k7 K.before.length kF,.slice k8 K.after.length kG,zI K.gone,zI K.new,zI K.ab,d8,d9]) 7 ⟨_,_,_,.inl (oC _ _ hf),rfl⟩<|zD 4<|dL [1,1,1,1,1,0,1,0,0,1,1,0,0,1,1,0,0] [K1] (fun(zz:Nat×Bool×Int×Int×Int)=>[(2,zI zz.2.2.1),(3,zI zz.2.2.2.1),(4,zI zz.2.2.2.2),(5,zI O9),(6,zP f14),(7,.slice mZ zs.length mg),(8,zP b8),(9,.bool zz.2.1),(10,zI (i:Int)),(31,zI (K.before.length:Int)),(32,zI (i:Int)),(40,zI (K.after.length:Int)),(41,zI (zz.1:Int))]) (fun zz=>[.b b8 (.cells ⟨[zI ((ax zs).c 0 0),zI ((ax zs).c 0 1),zI ((ax zs).c 0 2),zI ((ax zs).c 0 3),zI ((ax zs).c 1 0),zI ((ax zs).c 1 1),zI ((ax zs).c 1 2),zI ((ax zs).c 1 3),zI ((ax zs).c 2 0),zI ((ax zs).c 2 1),zI ((ax zs).c 2 2),zI ((ax zs).c 2 3),zI ((ax zs).c 3 0),zI ((ax zs).c 3 1),zI ((ax zs).c 3 2),zI ((ax zs).c 3 3)]⟩ 123 (0,0)),.b b1 (.cells ⟨[v0,v1,.slice fa 0 fc,v3,v4,v5,v6,v7,zI K.gone,zI K.new,zI K.ab,vb]⟩ 40 (0,0)),.l fr]) (fun zz=>zz.1≤K.after.length∧(⟨zz.2.1,zz.2.2.1,zz.2.2.2.1,zz.2.2.2.2⟩:xE)=(Cj (ax zs) ((zs.length:Nat):Int) i (acF (ax zs) ((zs.length:Nat):Int) K.after.length i) zz.1)) (fun zz=>K.after.length-zz.1) (⟨0,qf,qa,qb,qw⟩) ⟨by dsimp only;omega,hI.2⟩ [0,1,2] ?_
  rintro⟨j,qf,qa,qb,qw⟩ hJ K2 lG rest
  dsimp only at hJ
  refine zD 5<|zJ 42 ((j:Int) <(K.after.length:Int)) (fun h7=>?_) fun h7=>?_
  ·
   refine zD 10 ?_
   have iZ:=D5 zs i j
   refine zD 3<|HN (b:=b8) (off:=0) (len:=4) (sz:=4) (i:Int) (by omega)<|HN (b:=b8) (off:=0+(i:Int).toNat*4) (len:=4) (sz:=1) (j:Int) (by omega)<|oQ (b:=b8) (off:=0+(i:Int).toNat*4+(j:Int).toNat*1) (m:=1) (vs:=[zI ((ax zs).c i j)]) 0 [0] [(b8,.cells ⟨[zI ((ax zs).c 0 0),zI ((ax zs).c 0 1),zI ((ax zs).c 0 2),zI ((ax zs).c 0 3),zI ((ax zs).c 1 0),zI ((ax zs).c 1 1),zI ((ax zs).c 1 2),zI ((ax zs).c 1 3),zI ((ax zs).c 2 0),zI ((ax zs).c 2 1),zI ((ax zs).c 2 2),zI ((ax zs).c 2 3),zI ((ax zs).c 3 0),zI ((ax zs).c 3 1),zI ((ax zs).c 3 2),zI ((ax zs).c 3 3)]⟩ 123 (0,0))] (fun s _ hZ=>oN (hZ _ (.head _)) (BC (m:=ax zs) (by omega) (by omega)))<|zD 4<|HN (b:=b8) (off:=0) (len:=4) (sz:=4) (i:Int) (by omega)<|HN (b:=b8) (off:=0+(i:Int).toNat*4) (len:=4) (sz:=1) (j:Int) (by omega)<|oQ (b:=b8) (off:=0+(i:Int).toNat*4+(j:Int).toNat*1) (m:=1) (vs:=[zI ((ax zs).c i j)]) 0 [0] [(b8,.cells ⟨[zI ((ax zs).c 0 0),zI ((ax zs).c 0 1),zI ((ax zs).c 0 2),zI ((ax zs).c 0 3),zI ((ax zs).c 1 0),zI ((ax zs).c 1 1),zI ((ax zs).c 1 2),zI ((ax zs).c 1 3),zI ((ax zs).c 2 0),zI ((ax zs).c 2 1),zI ((ax zs).c 2 2),zI ((ax zs).c 2 3),zI ((ax zs).c 3 0),zI ((ax zs).c 3 1),zI ((ax zs).c 3 2),zI ((ax zs).c 3 3)]⟩ 123 (0,0))] (fun s _ hZ=>oN (hZ _ (.head _)) (BC (m:=ax zs) (by omega) (by omega)))<|ja ((zs.length:Int)-((ax zs).c i j)) (by omega)<|jmx (k:= .i64) (a:=((ax zs).c i j)) (b:=((zs.length:Int)-((ax zs).c i j)))<|zD 8<|zJ 60 ((max ((ax zs).c i j) ((zs.length:Int)-((ax zs).c i j))) <qw) (fun h8=>?_) fun h8=>?_
   ·
    refine zD 11<|ja ((j:Int)+1) (by omega)<|zD 2<|bF lG (⟨j+1,true,(i:Int),(j:Int),(max ((ax zs).c i j) ((zs.length:Int)-((ax zs).c i j)))⟩) ⟨by dsimp only;omega,ayU hJ.2 (by assumption)⟩ (by dsimp only;omega) [0,1,2] (Sub.refl _)
   refine zD 3<|ja ((j:Int)+1) (by omega)<|zD 2<|bF lG (⟨j+1,qf,qa,qb,qw⟩) ⟨by dsimp only;omega,akI hJ.2 (by assumption)⟩ (by dsimp only;omega) [0,1,2] (Sub.refl _)
  refine zD 3<|ja ((i:Int)+1) (by omega)<|zD 2<|bF bE (⟨i+1,qf,qa,qb,qw⟩) ⟨by dsimp only;omega,by have:=hJ.2;rw[show j=K.after.length by omega] at this;exact this⟩ (by dsimp only;omega) [0,1,2] (Sub.refl _)
 refine zD 8<|js 67 (!qf) (fun h9=>?_) (fun h9=>?_)
 ·
  try simp only[zB] at h9
  refine zD 9<|Fx qC.a.a (.tuple ⟨[zI 0,zI 0,zI 0,zI 11]⟩) [2] [] (bL.trans oC) ⟨zs,_,_,_,_,hz,rfl,rfl,.inr ⟨pg.1,by have:=hI.2;rw[show i=K.before.length by omega] at this;rw[←this];simp only[W7];cases qf<;>first|rfl|contradiction|simp_all⟩⟩
 try simp only[zB] at h9
 refine zD 13<|Fx qC.a.a (.tuple ⟨[zI qa,zI qb,zI qw,zI 0]⟩) [2] [] (bL.trans oC) ⟨zs,_,_,_,_,hz,rfl,rfl,.inr ⟨pg.1,by have:=hI.2;rw[show i=K.before.length by omega] at this;rw[←this];simp only[W7];cases qf<;>first|rfl|contradiction|simp_all⟩⟩
def J5:Value→Int
 | .int _ n=>n
 |_=>0
def UG(f:P4→Int)(F:List (P4×Value)):Int:=(F.map fun x=>f x.1*J5 x.2).sum
def pk(x:aj):P4:=(x.w0,x.w1,x.w2,x.w3)
def aeq(f:P4→Int)(zs:List aj):Int:=(zs.map fun x=>f (pk x)).sum
structure CF(F:List (P4×Value))(zs:List aj):Prop where
 sum:∀f,UG f F=aeq f zs
 val:∀x∈F,∃n,x.2= zI n∧0≤n∧n≤zs.length
 key:∀x∈F,∃z∈zs,x.1=pk z
theorem CF.nil:CF [] []:=⟨fun _=>rfl,by simp,by simp⟩
theorem GV(g:κ×Value→Int):∀ {F:List (κ×Value)} {i:Nat} {k:κ} {u v:Value},F[i]?=some (k,u)→((tU k v F i).map g).sum=(F.map g).sum-g (k,u)+g (k,v)
 | [],_,_,_,_,h=>by simp at h
 |x::F,0,k,u,v,h=>by simp at h;subst h;simp only[tU,List.map_cons,List.sum_cons];omega
 |x::F,i+1,k,u,v,h=>by
  simp at h
  have:=GV g (v:=v) h
  simp only[tU,List.map_cons,List.sum_cons];omega
theorem wC:∀ {F:List (κ×Value)} {i:Nat} {k:κ} {v:Value} {x:κ×Value},x∈tU k v F i→x=(k,v)∨x∈F
 | [],_,_,_,_,h=>by cases h
 |y::F,0,k,v,x,h=>by
  rcases List.mem_cons.1 h with h|h
  ·exact .inl h
  exact .inr (List.mem_cons_of_mem _ h)
 |y::F,i+1,k,v,x,h=>by
  rcases List.mem_cons.1 h with h|h
  ·exact .inr (by rw[h];exact List.mem_cons_self)
  exact(wC h).imp id (List.mem_cons_of_mem _)
theorem CF.look{F:List (P4×Value)}{zs:List aj}(h:CF F zs)(k:P4):∃n,RS (zI 0) false k F= zI n∧0≤n∧n≤zs.length:=by
 simp only[RS,lkM]
 cases hf:sI k F 0 with
 |none=>exact⟨0,rfl,by omega,by omega⟩
 |some u=>
  obtain⟨j,u⟩:=u
  have:=(qS hf).2
  exact h.val _ (zL this)
theorem CF.upd{F F1:List (P4×Value)}{zs:List aj}{x:aj}(h:CF F zs)(h1:((∃u,sI (pk x) F 0=some u)∧F1=F)∨(sI (pk x) F 0=none∧F1=F++[(pk x,zI 0)]))(hl:RS (zI 0) false (pk x) F= zI n)(hn:0≤n∧n≤zs.length):CF (mN (pk x) (zI (n+1)) F1) (zs++[x]):=by
 have hz (f:P4→Int):aeq f (zs++[x])=aeq f zs+f (pk x):=by simp[aeq]
 rcases h1 with ⟨⟨⟨j,u⟩,hf⟩,rfl⟩| ⟨hf,rfl⟩
 ·have hu:=qS hf
  simp only[Nat.sub_zero] at hu
  have pF:u= zI n:=by simpa [RS,lkM,hf] using hl
  subst pF
  simp only[mN,hf]
  refine⟨fun f=>?_,fun y hy=>?_,fun y hy=>?_⟩
  ·rw[hz,←h.sum,UG,GV _ hu.2,UG]
   simp only[J5,Int.mul_add,Int.mul_one];omega
  ·rcases wC hy with rfl|hy
   ·exact⟨n+1,rfl,by omega,by simp;omega⟩
   obtain⟨m,h1,h2⟩:=h.val _ hy
   exact⟨m,h1,by omega,by simp;omega⟩
  rcases wC hy with rfl|hy
  ·exact⟨x,by simp,rfl⟩
  obtain⟨z,h1,h2⟩:=h.key _ hy
  exact⟨z,by simp[h1],h2⟩
 have pF:n=0:=by
  have:(Value.int .i64 0)= zI n:=by simpa [RS,lkM,hf] using hl
  cases this;rfl
 subst pF
 have hs:mN (pk x) (zI (0+1)) (F++[(pk x,zI 0)])=tU (pk x) (zI (0+1)) (F++[(pk x,zI 0)]) (0+F.length):=by
  simp only[mN,BZ (v:= zI 0) hf]
 have hg:(F++[(pk x,Value.int .i64 0)])[0+F.length]?=some (pk x,zI 0):=by simp
 rw[hs]
 refine⟨fun f=>?_,fun y hy=>?_,fun y hy=>?_⟩
 ·rw[hz,←h.sum,UG,GV _ hg,UG]
  simp[J5]
 ·rcases wC hy with rfl|hy
  ·exact⟨0+1,rfl,by omega,by simp;omega⟩
  rcases List.mem_append.1 hy with hy|hy
  ·obtain⟨m,h1,h2⟩:=h.val _ hy
   exact⟨m,h1,by omega,by simp;omega⟩
  rw[List.mem_singleton] at hy;subst hy
  exact⟨0,rfl,by omega,by omega⟩
 rcases wC hy with rfl|hy
 ·exact⟨x,by simp,rfl⟩
 rcases List.mem_append.1 hy with hy|hy
 ·obtain⟨z,h1,h2⟩:=h.key _ hy
  exact⟨z,by simp[h1],h2⟩
 rw[List.mem_singleton] at hy;subst hy
 exact⟨x,by simp,rfl⟩
def fV(i j:Nat):Value→Int
 | .agg ⟨l⟩=>(match l[i]? with
  |some (.int _ n)=>if n=(j:Int)+1 then 1 else 0
  |_=>0)
 |_=>0
def sW(i j:Nat)(l:List MapEntry):Int:=(l.map fun e=>fV i j e.key*J5 e.val).sum
theorem aer{F:List (P4×Value)}{es:Array MapEntry}(h:tK JE F es ck)(i j:Nat):sW i j es.toList=UG (fun k=>fV i j (JE k)) F:=by
 have h1:=congrArg (List.map fun p:Value×Value=>fV i j p.1*J5 p.2) h.1
 simp only[List.map_map] at h1
 unfold sW UG
 exact congrArg List.sum h1
theorem QF(i j:Nat):∀ {l:List MapEntry} {e:MapEntry},(l.map (·.born)).Nodup→e∈l→sW i j l=fV i j e.key*J5 e.val+sW i j (l.filter fun x=> !decide (x.born=e.born))
 | [],_,_,h=>by cases h
 |x::l,e,hn,h=>by
  simp only[List.map_cons,List.nodup_cons] at hn
  rcases List.mem_cons.1 h with rfl|h
  ·have:l.filter (fun y=> !decide (y.born=e.born))=l:=by
    refine List.filter_eq_self.2 fun y hy=>?_
    have:y.born≠e.born:=fun h=>hn.1 (h▸List.mem_map_of_mem hy)
    simp[this]
   rw[List.filter_cons_of_neg (by simp),this];rfl
  have ek:x.born≠e.born:=fun k=>hn.1 (k▸List.mem_map_of_mem h)
  rw[List.filter_cons_of_pos (by simp[ek])]
  have:=QF i j hn.2 h
  simp only[sW,List.map_cons,List.sum_cons] at this ⊢
  omega
theorem Vu(es:Array MapEntry)(seen:List Nat)(b:Nat):cT es (seen++[b])=(cT es seen).filter fun x=> !decide (x.born=b):=by
 simp only[cT,List.filter_filter]
 refine List.filter_congr fun x _=>?_
 simp only[List.contains_eq_mem,List.mem_append,List.mem_singleton,Bool.decide_or,Bool.not_or]
 rw[Bool.and_comm]
theorem Lg{F:List (P4×Value)}{es:Array MapEntry}(h:tK JE F es ck){e:MapEntry}(he:e∈cT es seen)(i j:Nat):sW i j (cT es seen)=fV i j e.key*J5 e.val+sW i j (cT es (seen++[e.born])):=by
 rw[Vu]
 exact QF i j ((List.filter_sublist.map _).nodup h.2.1) he
theorem ar8(i j:Nat)(v:Value):fV i j v=0∨fV i j v=1:=by
 unfold fV
 split<;>try exact .inl rfl
 split<;>try exact .inl rfl
 split<;>simp
theorem QE{i j:Nat}:∀ {l:List MapEntry},(∀e∈l,0≤J5 e.val)→0≤sW i j l
 | [],_=>Int.le_refl _
 |x::l,h=>by
  have h1:=QE (i:=i) (j:=j) (l:=l) fun e he=>h e (List.mem_cons_of_mem _ he)
  have h2:=h x List.mem_cons_self
  simp only[sW,List.map_cons,List.sum_cons] at h1 ⊢
  rcases ar8 i j x.key with h3|h3<;>rw[h3]<;>omega
theorem amc{F:List (P4×Value)}{zs:List aj}(h:CF F zs){es:Array MapEntry}(hE:tK JE F es ck):∀e∈cT es seen,0≤J5 e.val:=fun e he=>by
 have h1:e∈es.toList:=(List.mem_filter.1 he).1
 have h2:(e.key,e.val)∈es.toList.map (fun e=>(e.key,e.val)):=List.mem_map_of_mem (f:=fun e:MapEntry=>(e.key,e.val)) h1
 rw[hE.1] at h2
 obtain⟨y,h3,h4⟩:=List.mem_map.1 h2
 obtain⟨n,h5,h6,_⟩:=h.val _ h3
 simp only[Prod.mk.injEq] at h4
 rw[←h4.2,h5];exact h6
theorem ZK(x:aj)(j:Nat)(hi:i <4):fV i j (JE (pk x))=if pI x i=(j:Int)+1 then 1 else 0:=by
 rcases BE hi with rfl|rfl|rfl|rfl<;>rfl
theorem XP(p:α→Prop)[DecidablePred p]:∀l:List α,(l.map fun x=>if p x then (1:Int) else 0).sum=((l.filter fun x=>decide (p x)).length:Int)
 | []=>rfl
 |x::l=>by
  rw[List.map_cons,List.sum_cons,XP p l]
  by_cases h:p x
  ·rw[if_pos h,List.filter_cons_of_pos (by simpa using h),List.length_cons];omega
  rw[if_neg h,List.filter_cons_of_neg (by simpa using h)];omega
theorem CF.total{F:List (P4×Value)}{zs:List aj}(h:CF F zs){es:Array MapEntry}(hE:tK JE F es ck)(j:Nat)(hi:i <4):sW i j (cT es [])=(ax zs).c i j:=by
 rw[Ds,aer hE,h.sum,aeq]
 simp only[ZK _ j hi]
 exact XP (fun x=>pI x i=(j:Int)+1) zs
theorem ads{z:aj}(h:(z.w0==0&&(z.w1==0&&(z.w2==0&&(z.w3==0&&true))))=true)(i:Nat):pI z i=0:=by
 simp only[Bool.and_eq_true,beq_iff_eq] at h
 match i with
 |0=>exact h.1
 |1=>exact h.2.1
 |2=>exact h.2.2.1
 |_+3=>exact h.2.2.2.1
def F5(m:fy)(S T:Nat→Nat→Int):Prop:=∀i j,i <4→j <4→0≤m.c i j∧m.c i j+S i j=T i j
theorem F5.init{F:List (P4×Value)}{zs:List aj}(h:CF F zs){es:Array MapEntry}(hE:tK JE F es ck):F5 ⟨fun _ _=>0⟩ (fun i j=>sW i j (cT es [])) (ax zs).c:=fun i j hi _=>⟨Int.le_refl _,by show 0+sW i j (cT es [])=_;rw[h.total hE j hi];exact Int.zero_add _⟩
def inS(z:aj)(n:Int)(q:Nat)(R:Nat→Nat→Int):Nat→Nat→Int:=fun i j=>(if i <q then 0 else fV i j (JE (pk z))*n)+R i j
theorem F5.zero{m:fy}{z:aj}{n:Int}{es:Array MapEntry}{ck:Nat}{F:List (P4×Value)}{T:Nat→Nat→Int}{seen:List Nat}{e:MapEntry}(hE:tK JE F es ck)(he:e∈cT es seen)(hk:e.key=JE (pk z))(hz:∀i,pI z i=0)(h:F5 m (fun i j=>sW i j (cT es seen)) T):F5 m (fun i j=>sW i j (cT es (seen++[e.born]))) T:=fun i j hi hj=>by
 have h1:=h i j hi hj
 have h2:=Lg hE he i j
 rw[hk,ZK z j hi,if_neg (by rw[hz];omega),Int.zero_mul,Int.zero_add] at h2
 dsimp only at h1 ⊢
 rw[h2] at h1;exact h1
theorem F5.open_{m:fy}{z:aj}{es:Array MapEntry}{F:List (P4×Value)}{e:MapEntry}(hE:tK JE F es ck)(he:e∈cT es seen)(hk:e.key=JE (pk z))(hv:e.val= zI n)(h:F5 m (fun i j=>sW i j (cT es seen)) T):F5 m (inS z n 0 fun i j=>sW i j (cT es (seen++[e.born]))) T:=fun i j hi hj=>by
 have h1:=h i j hi hj
 have h2:=Lg hE he i j
 rw[hk,hv] at h2
 simp only[J5] at h2
 simp only[inS,if_neg (Nat.not_lt_zero i)]
 dsimp only at h1
 rw[h2] at h1;exact h1
theorem F5.close{m:fy}{z:aj}(h:F5 m (inS z n 4 R) T):F5 m R T:=fun i j hi hj=>by
 have h1:=h i j hi hj
 simp only[inS,if_pos hi,Int.zero_add] at h1
 exact h1
theorem F5.skip{m:fy}{z:aj}(h:F5 m (inS z n q R) T)(hq:¬pI z q>0):F5 m (inS z n (q+1) R) T:=fun i j hi hj=>by
 have h1:=h i j hi hj
 simp only[inS] at h1 ⊢
 by_cases e:i=q
 ·subst e
  rw[if_neg (Nat.lt_irrefl _),ZK z j hi,if_neg (by omega),Int.zero_mul] at h1
  rw[if_pos (Nat.lt_succ_self _)];exact h1
 by_cases e2:i <q
 ·rw[if_pos e2] at h1;rw[if_pos (by omega)];exact h1
 rw[if_neg e2] at h1;rw[if_neg (by omega)];exact h1
theorem F5.add{m:fy}{z:aj}(h:F5 m (inS z n q R) T)(hn:0≤n)(hq:pI z q>0)(hq4:q <4):F5 (r5 m q (pI z q-1).toNat (m.c q (pI z q-1).toNat+n)) (inS z n (q+1) R) T:=fun i j hi hj=>by
 have h1:=h i j hi hj
 simp only[inS,r5] at h1 ⊢
 by_cases e:i=q
 ·subst e
  rw[if_neg (Nat.lt_irrefl _),ZK z j hi] at h1
  rw[if_pos (Nat.lt_succ_self _)]
  by_cases e2:j=(pI z i-1).toNat
  ·rw[if_pos (by omega)] at h1
   rw[if_pos ⟨rfl,e2⟩,←e2];omega
  rw[if_neg (by omega)] at h1
  rw[if_neg (by omega)];omega
 rw[if_neg (c:=i=q∧j=(pI z q-1).toNat) (by omega)]
 by_cases e2:i <q
 ·rw[if_pos e2] at h1;rw[if_pos (by omega)];exact h1
 rw[if_neg e2] at h1;rw[if_neg (by omega)];exact h1
theorem F5.bound{m:fy}{z:aj}(h:F5 m (inS z n q R) T)(hR:∀i j,0≤R i j)(hn:0≤n)(hi:i <4)(hj:j <4):0≤m.c i j∧m.c i j≤T i j:=by
 have h1:=h i j hi hj
 have h2:=hR i j
 simp only[inS] at h1
 split at h1
 ·omega
 rcases ar8 i j (JE (pk z)) with h3|h3<;>rw[h3] at h1<;>omega
theorem F5.fin{m:fy}{zs:List aj}{es:Array MapEntry}(h:F5 m (fun i j=>sW i j (cT es seen)) (ax zs).c)(he:cT es seen=[]):AD m=AD (ax zs):=by
 have k (i j:Nat) (hi:i <4) (hj:j <4):m.c i j=(ax zs).c i j:=by
  have:=(h i j hi hj).2
  rw[he] at this
  simpa [sW] using this
 simp only[AD,k 0 0 (by decide) (by decide),k 0 1 (by decide) (by decide),k 0 2 (by decide) (by decide),k 0 3 (by decide) (by decide),k 1 0 (by decide) (by decide),k 1 1 (by decide) (by decide),k 1 2 (by decide) (by decide),k 1 3 (by decide) (by decide),k 2 0 (by decide) (by decide),k 2 1 (by decide) (by decide),k 2 2 (by decide) (by decide),k 2 3 (by decide) (by decide),k 3 0 (by decide) (by decide),k 3 1 (by decide) (by decide),k 3 2 (by decide) (by decide),k 3 3 (by decide) (by decide)]
theorem aut{z:aj}(h:q <4):nth [zI z.w0,zI z.w1,zI z.w2,zI z.w3] ((q:Int).toNat*1)=some (zI (pI z q)):=by
 rcases BE h with rfl|rfl|rfl|rfl<;>rfl
theorem afY{m:fy}{a:Nat}{j:Int}(h:a <4)(k:0≤j∧j <4):nth (AD m) (0+(a:Int).toNat*4+j.toNat*1)=some (zI (m.c a j.toNat)):=by
 obtain⟨b,rfl⟩:=Int.eq_ofNat_of_zero_le k.1
 exact BC h (by omega)
theorem afX{m:fy}{a:Nat}{j v:Int}(h:a <4)(k:0≤j∧j <4):dK (AD m) (0+(a:Int).toNat*4+j.toNat*1) [zI v]=AD (r5 m a j.toNat v):=by
 obtain⟨b,rfl⟩:=Int.eq_ofNat_of_zero_le k.1
 exact anj h (by omega)
theorem afZ{m:fy}{a:Nat}{j:Int}{v:Value}(h:a <4)(k:0≤j∧j <4):Nat.ble ((0+(a:Int).toNat*4+j.toNat*1)+[v].length) (AD m).length=true:=by
 obtain⟨b,rfl⟩:=Int.eq_ofNat_of_zero_le k.1
 exact ank h (by omega)
theorem aT6(z:aj):EqV zT 113 (v4 z.w0 z.w1 z.w2 z.w3) (v4 0 0 0 0) (z.w0==0&&(z.w1==0&&(z.w2==0&&(z.w3==0&&true)))):=uI (aHx (dep:=9998) (ig Tryz.typeInfo113 Tryz.underlying113 rfl rfl rfl rfl rfl rfl) fw _ _ _ _ _ _ _ _)
theorem aOl:jR zT 113:=by unfold jR;kernel_rfl
theorem RQ{F F1:List (P4×Value)}{k:P4}(h1:((∃u,sI k F 0=some u)∧F1=F)∨(sI k F 0=none∧F1=F++[(k,zI 0)]))(hl:RS (zI 0) false k F= zI n):RS (zI 0) false k F1= zI n:=by
 rcases h1 with ⟨_,rfl⟩| ⟨hf,rfl⟩
 ·exact hl
 simp only[RS,lkM,BZ (v:= zI 0) hf]
 simpa [RS,lkM,hf] using hl
theorem agL{v:Value}{zs:List aj}(hl:a8 ro v 8 cG zs)(hn:zs.length≤100000)(hp:∀x∈zs,∀q,0≤pI x q∧pI x q≤4):dQ zT 54 [v] ro [] (fun r Y=>r= .agg ⟨AD (ax zs)⟩∧Y=[]):=by
 obtain⟨dB,mP,mO,dz,rfl,qd,gY,jV⟩:=hl
 refine zE<|zD 2<|jn fun b2=>zD 3<|jmk JE fun Ha L11 ah0=>zD 10<|dL [1,1,0,1,0,0] [] (fun(zz:Nat×(List (P4×Value))×Cells)=>[(2,zP b2),(3,(.map (some Ha))),(12,.slice dB zs.length dz),(13,zI (zs.length:Int)),(14,zI (zz.1:Int))]) (fun(zz:Nat×(List (P4×Value))×Cells)=>[.l zz.2.2,.b b2 (.cells ⟨[zI 0,zI 0,zI 0,zI 0,zI 0,zI 0,zI 0,zI 0,zI 0,zI 0,zI 0,zI 0,zI 0,zI 0,zI 0,zI 0]⟩ 123 (0,0))]) (fun(zz:Nat×(List (P4×Value))×Cells)=>zz.1≤zs.length∧kK Ha JE zz.2.1 zz.2.2∧CF zz.2.1 (zs.take zz.1)) (fun(zz:Nat×(List (P4×Value))×Cells)=>zs.length-zz.1) (⟨0,[],L11⟩) ⟨by dsimp only;omega,ah0,CF.nil⟩ [0,1] ?_
 rintro⟨k,F,LM⟩ hI K1 bE rest
 dsimp only at hI
 refine zD 5<|zJ 15 ((k:Int) <(zs.length:Int)) (fun h1=>?_) fun h1=>?_
 ·
  refine zD 6 ?_
  obtain⟨Cr,nj⟩:=zG zs k
  refine fL dz 8 gY nj<|jl 0 (jV _ _ nj)<|jn fun b5=>jd 2 [0] ?_
  obtain⟨nk,hlk,hnk⟩:=hI.2.2.look (pk Cr)
  have Ub:(zs.take k).length=k:=by rw[List.length_take];omega
  refine jd 4 [0]<|Gm [3,5] ⟨fun z2 t3 qL=>?_,fun z5 t6 OI=>?_,trivial⟩
  ·
   refine jlu (kv:=JE) (F:=F) (r:=Ha) (K:=113) (pk Cr) (zI 0) false [1] LM ags (fun s _ hZ=>hI.2.1.has hZ)<|ep qL [0,1,2]<|jw 3 (zI nk) hlk<|ja (nk+1) (by omega)<|aS 5 fun P8 Qv OH=>jme (kv:=JE) (F:=F) (r:=Ha) (L:=LM) 1 (pk Cr) ags fw hI.2.1 fun Fm4 bm4 cm4 Lm4 bej hm4=>fR OH []<|aS 6 fun Ni Nt KD=>zD 1<|ep KD [0,1,2]<|aS 7 fun yG yI qN=>jes 0 (zI (nk+1)) hm4 fun Lm7 hm7=>gA qN<|zD 2<|ja ((k:Int)+1) (by omega)<|zD 2<|bF bE (⟨k+1,_,Lm7⟩) ⟨by dsimp only;omega,hm7,by dsimp only;rw[j6 nj];exact hI.2.2.upd (by assumption) hlk hnk⟩ (by dsimp only;omega) [0,2] (Sub.refl _)
  refine jme (kv:=JE) (F:=F) (r:=Ha) (L:=LM) 1 (pk Cr) ags fw hI.2.1 fun Fm9 bm9 cm9 Lm9 aGA hm9=>gA OI<|Gm [3,6] ⟨fun z11 t12 DL=>?_,fun z14 t15 FM=>?_,trivial⟩
  ·
   refine jlu (kv:=JE) (F:=Fm9) (r:=Ha) (K:=113) (pk Cr) (zI 0) false [0] Lm9 ags (fun s _ hZ=>hm9.own.has hZ)<|gA DL<|jw 3 (zI nk) (RQ aGA hlk)<|ja (nk+1) (by omega)<|aS 6 fun Xp XE DK=>zD 1<|ep DK [0,1,2]<|aS 7 fun adr aeh OP=>jes 0 (zI (nk+1)) hm9 fun aU7 aFk=>gA OP<|zD 2<|ja ((k:Int)+1) (by omega)<|zD 2<|bF bE (⟨k+1,_,aU7⟩) ⟨by dsimp only;omega,aFk,by dsimp only;rw[j6 nj];exact hI.2.2.upd (by assumption) hlk hnk⟩ (by dsimp only;omega) [0,2] (Sub.refl _)
  refine zD 1<|gA FM<|aS 3 fun adq aeg OO=>jlu (kv:=JE) (F:=Fm9) (r:=Ha) (K:=113) (pk Cr) (zI 0) false [0] Lm9 ags (fun s _ hZ=>hm9.own.has hZ)<|gA OO<|jw 3 (zI nk) (RQ aGA hlk)<|ja (nk+1) (by omega)<|aS 7 fun ap4 aqr ON=>jes 0 (zI (nk+1)) hm9 fun aU6 ahZ=>gA ON<|zD 2<|ja ((k:Int)+1) (by omega)<|zD 2<|bF bE (⟨k+1,_,aU6⟩) ⟨by dsimp only;omega,ahZ,by dsimp only;rw[j6 nj];exact hI.2.2.upd (by assumption) hlk hnk⟩ (by dsimp only;omega) [0,2] (Sub.refl _)
 refine zD 4<|jn fun b6=>jf [1] LM (fun aZ8 av7 aw3=>?_)
 have hCF:CF F zs:=by have:=hI.2.2;rwa[show k=zs.length by omega,List.take_length] at this
 obtain⟨CE,JZ,rfl,hE1⟩:=hI.2.1
 refine zD 5<|jmR (aw3 _ (.head _)) fun r27=>jg 0 [.b r27 (u1 Ha JZ [])]<|zD 2<|dL [1,1,1,1,0,1,0,0] [] (fun(zz:(List Nat)×fy)=>[(2,zP b2),(6,zP b6),(27,zP r27)]) (fun zz=>[.b r27 (u1 Ha JZ zz.1),.b b6 (.cells ⟨[zI (zz.2.c 0 0),zI (zz.2.c 0 1),zI (zz.2.c 0 2),zI (zz.2.c 0 3),zI (zz.2.c 1 0),zI (zz.2.c 1 1),zI (zz.2.c 1 2),zI (zz.2.c 1 3),zI (zz.2.c 2 0),zI (zz.2.c 2 1),zI (zz.2.c 2 2),zI (zz.2.c 2 3),zI (zz.2.c 3 0),zI (zz.2.c 3 1),zI (zz.2.c 3 2),zI (zz.2.c 3 3)]⟩ 123 (0,0)),.b b2 (.cells ⟨[zI 0,zI 0,zI 0,zI 0,zI 0,zI 0,zI 0,zI 0,zI 0,zI 0,zI 0,zI 0,zI 0,zI 0,zI 0,zI 0]⟩ 123 (0,0))]) (fun zz=>F5 zz.2 (fun i j=>sW i j (cT CE zz.1)) (ax zs).c) (fun zz=>(cT CE zz.1).length) (⟨[],⟨fun _ _=>0⟩⟩) (F5.init hCF hE1) [0,1,2] ?_
 rintro⟨seen,m⟩ hI K21 aoL rest
 dsimp only at hI
 refine zD 2<|jmN (it:=r27) (kv:=JE) (seen:=seen) 0 (aw3 _ (.head _)) hE1 (fun k28 v28 e28 aFM abZ aw1 aEn=>?_) (fun avD=>?_)
 ·
  obtain⟨Hy,arz,aFa⟩:=hCF.val _ aFM
  obtain⟨lD,avD,hkz⟩:=hCF.key _ aFM
  dsimp only at arz hkz
  subst arz
  subst hkz
  have hpz:=hp lD avD
  have cU:=HG abZ
  refine jg 0 [.b r27 (u1 Ha JZ (seen++[e28.born]))]<|zD 8<|jmE (it:=r27) 0 (aw3 _ (.head _)) hE1 abZ aw1 aEn<|jg 0 [.b r27 (u1 Ha JZ (seen++[e28.born]))]<|zD 2<|jn fun b7=>jd 8 [0,0]<|jeq aOl (aT6 lD)<|zD 1<|js 35 (lD.w0==0&&(lD.w1==0&&(lD.w2==0&&(lD.w3==0&&true)))) (fun h21=>?_) (fun h21=>?_)
  ·
   refine zD 2<|bF aoL (⟨(seen++[e28.born]),m⟩) (hI.zero (n:=0) hE1 abZ aw1 (ads (by assumption))) cU [1,2,3] (Sub.refl _)
  refine jd 8 [0]<|dL [1,1,1,1,0,1,0,0,1,1,0,1,1,1,0,0] [K21] (fun(zz:Nat×fy)=>[(2,zP b2),(6,zP b6),(8,zI Hy),(27,zP r27),(36,.agg ⟨[zI lD.w0,zI lD.w1,zI lD.w2,zI lD.w3]⟩),(37,zI (zz.1:Int))]) (fun zz=>[.b r27 (u1 Ha JZ (seen++[e28.born])),.b b6 (.cells ⟨[zI (zz.2.c 0 0),zI (zz.2.c 0 1),zI (zz.2.c 0 2),zI (zz.2.c 0 3),zI (zz.2.c 1 0),zI (zz.2.c 1 1),zI (zz.2.c 1 2),zI (zz.2.c 1 3),zI (zz.2.c 2 0),zI (zz.2.c 2 1),zI (zz.2.c 2 2),zI (zz.2.c 2 3),zI (zz.2.c 3 0),zI (zz.2.c 3 1),zI (zz.2.c 3 2),zI (zz.2.c 3 3)]⟩ 123 (0,0)),.b b7 (.cells ⟨[zI lD.w0,zI lD.w1,zI lD.w2,zI lD.w3]⟩ 113 (0,0)),.b b2 (.cells ⟨[zI 0,zI 0,zI 0,zI 0,zI 0,zI 0,zI 0,zI 0,zI 0,zI 0,zI 0,zI 0,zI 0,zI 0,zI 0,zI 0]⟩ 123 (0,0))]) (fun zz=>zz.1≤4∧F5 zz.2 (inS lD Hy zz.1 (fun i j=>sW i j (cT CE (seen++[e28.born])))) (ax zs).c) (fun zz=>4-zz.1) (⟨0,m⟩) ⟨by dsimp only;omega,hI.open_ hE1 abZ aw1 aEn⟩ [1,2,0,3] ?_
  rintro⟨q,m⟩ hJ K22 aGx rest
  dsimp only at hJ
  refine zD 5<|zJ 38 ((q:Int) <4) (fun MK=>?_) fun MK=>?_
  ·
   refine zD 7<|jai (l:=[zI lD.w0,zI lD.w1,zI lD.w2,zI lD.w3]) (q:Int) 4 1 false (by omega) (v:= zI (pI lD q)) (show nth [_,_,_,_] _=_ from aut (by omega))<|zD 8<|zJ 42 ((pI lD q)>0) (fun Gw=>?_) fun Gw=>?_
   ·
    refine zD 4<|ja ((pI lD q)-1) (by have:=hpz q;omega) ?_
    refine HN (b:=b6) (off:=0) (len:=4) (sz:=4) (q:Int) (by omega)<|HN (b:=b6) (off:=0+(q:Int).toNat*4) (len:=4) (sz:=1) ((pI lD q)-1) (by have:=hpz q;omega) ?_
    refine oQ (b:=b6) (off:=0+(q:Int).toNat*4+((pI lD q)-1).toNat*1) (m:=1) (vs:=[zI (m.c q (pI lD q-1).toNat)]) 0 [1] [(b6,.cells ⟨[zI (m.c 0 0),zI (m.c 0 1),zI (m.c 0 2),zI (m.c 0 3),zI (m.c 1 0),zI (m.c 1 1),zI (m.c 1 2),zI (m.c 1 3),zI (m.c 2 0),zI (m.c 2 1),zI (m.c 2 2),zI (m.c 2 3),zI (m.c 3 0),zI (m.c 3 1),zI (m.c 3 2),zI (m.c 3 3)]⟩ 123 (0,0))] (fun s _ hZ=>oN (hZ _ (.head _)) (afY (m:=m) (by omega) (by have:=hpz q;omega))) ?_
    refine zD 1<|ja ((m.c q (pI lD q-1).toNat)+Hy) (by have h7:=hJ.2.bound (fun i j=>QE (amc hCF hE1)) aFa.1 (i:=q) (j:=(pI lD q-1).toNat) (by omega) (by have:=hpz q;omega);have h8:=D5 zs q (pI lD q-1).toNat;omega) ?_
    refine HN (b:=b6) (off:=0) (len:=4) (sz:=4) (q:Int) (by omega)<|HN (b:=b6) (off:=0+(q:Int).toNat*4) (len:=4) (sz:=1) ((pI lD q)-1) (by have:=hpz q;omega) ?_
    refine aS 10 fun ap3 aqq OM=>PS 1 b6 (0+(q:Int).toNat*4+((pI lD q)-1).toNat*1) [zI (m.c 0 0),zI (m.c 0 1),zI (m.c 0 2),zI (m.c 0 3),zI (m.c 1 0),zI (m.c 1 1),zI (m.c 1 2),zI (m.c 1 3),zI (m.c 2 0),zI (m.c 2 1),zI (m.c 2 2),zI (m.c 2 3),zI (m.c 3 0),zI (m.c 3 1),zI (m.c 3 2),zI (m.c 3 3)] [zI ((m.c q (pI lD q-1).toNat)+Hy)] 123 (by intro v hv;rw[List.mem_singleton] at hv;subst hv;rfl) (afZ (m:=m) (by omega) (by have:=hpz q;omega)) ?_
    refine jmw 0 [.b b6 (.cells ⟨[zI ((r5 m q (pI lD q-1).toNat (m.c q (pI lD q-1).toNat+Hy)).c 0 0),zI ((r5 m q (pI lD q-1).toNat (m.c q (pI lD q-1).toNat+Hy)).c 0 1),zI ((r5 m q (pI lD q-1).toNat (m.c q (pI lD q-1).toNat+Hy)).c 0 2),zI ((r5 m q (pI lD q-1).toNat (m.c q (pI lD q-1).toNat+Hy)).c 0 3),zI ((r5 m q (pI lD q-1).toNat (m.c q (pI lD q-1).toNat+Hy)).c 1 0),zI ((r5 m q (pI lD q-1).toNat (m.c q (pI lD q-1).toNat+Hy)).c 1 1),zI ((r5 m q (pI lD q-1).toNat (m.c q (pI lD q-1).toNat+Hy)).c 1 2),zI ((r5 m q (pI lD q-1).toNat (m.c q (pI lD q-1).toNat+Hy)).c 1 3),zI ((r5 m q (pI lD q-1).toNat (m.c q (pI lD q-1).toNat+Hy)).c 2 0),zI ((r5 m q (pI lD q-1).toNat (m.c q (pI lD q-1).toNat+Hy)).c 2 1),zI ((r5 m q (pI lD q-1).toNat (m.c q (pI lD q-1).toNat+Hy)).c 2 2),zI ((r5 m q (pI lD q-1).toNat (m.c q (pI lD q-1).toNat+Hy)).c 2 3),zI ((r5 m q (pI lD q-1).toNat (m.c q (pI lD q-1).toNat+Hy)).c 3 0),zI ((r5 m q (pI lD q-1).toNat (m.c q (pI lD q-1).toNat+Hy)).c 3 1),zI ((r5 m q (pI lD q-1).toNat (m.c q (pI lD q-1).toNat+Hy)).c 3 2),zI ((r5 m q (pI lD q-1).toNat (m.c q (pI lD q-1).toNat+Hy)).c 3 3)]⟩ 123 (0,0))] (L:=[(b6,.cells ⟨dK [zI (m.c 0 0),zI (m.c 0 1),zI (m.c 0 2),zI (m.c 0 3),zI (m.c 1 0),zI (m.c 1 1),zI (m.c 1 2),zI (m.c 1 3),zI (m.c 2 0),zI (m.c 2 1),zI (m.c 2 2),zI (m.c 2 3),zI (m.c 3 0),zI (m.c 3 1),zI (m.c 3 2),zI (m.c 3 3)] (0+(q:Int).toNat*4+((pI lD q)-1).toNat*1) [zI ((m.c q (pI lD q-1).toNat)+Hy)]⟩ 123 (0,0))]) (by rw[afX (m:=m) (by omega) (by have:=hpz q;omega)];rfl) ?_
    refine fR OM []<|zD 2<|ja ((q:Int)+1) (by omega)<|zD 2<|bF aGx (⟨q+1,(r5 m q (pI lD q-1).toNat (m.c q (pI lD q-1).toNat+Hy))⟩) ⟨by dsimp only;omega,hJ.2.add aFa.1 (by assumption) (by omega)⟩ (by dsimp only;omega) [1,0,2,3] (Sub.refl _)
   refine zD 3<|ja ((q:Int)+1) (by omega)<|zD 2<|bF aGx (⟨q+1,m⟩) ⟨by dsimp only;omega,hJ.2.skip (by assumption)⟩ (by dsimp only;omega) (zN 0 4) (Sub.refl _)
  refine zD 2<|bF aoL (⟨(seen++[e28.born]),m⟩) (F5.close (z:=lD) (n:=Hy) (by have:=hJ.2;rwa[show q=4 by omega] at this)) cU [0,1,3] (Sub.refl _)
 refine jg 0 [.b r27 (u1 Ha JZ seen)]<|jd 11 [1,2]<|aI q0.a (.agg ⟨[zI (m.c 0 0),zI (m.c 0 1),zI (m.c 0 2),zI (m.c 0 3),zI (m.c 1 0),zI (m.c 1 1),zI (m.c 1 2),zI (m.c 1 3),zI (m.c 2 0),zI (m.c 2 1),zI (m.c 2 2),zI (m.c 2 3),zI (m.c 3 0),zI (m.c 3 1),zI (m.c 3 2),zI (m.c 3 3)]⟩) [2] [] [] av7 ⟨_,_,rfl,rfl,by rw[←hI.fin avD],rfl⟩
theorem I1:q6:=fun hl hn hp=>agL hl hn hp
theorem BX:∀(l:List Int) (a:Int),l.foldl min a=a∨l.foldl min a∈l
 | [],_=> .inl rfl
 |y::l,a=>by
  simp only[List.foldl_cons]
  rcases BX l (min a y) with h|h
  ·rw[h]
   rcases(by omega:min a y=a∨min a y=y) with e|e
   ·exact .inl e
   rw[e];exact .inr List.mem_cons_self
  exact .inr (List.mem_cons_of_mem _ h)
theorem RL:∀ {l:List Int},l≠[]→vv l∈l
 | [],h=>absurd rfl h
 |y::l,_=>by
  show l.foldl min y∈_
  rcases BX l y with h|h
  ·rw[h];exact List.mem_cons_self
  exact List.mem_cons_of_mem _ h
theorem Ml{l m:List Int}(h:l.Perm m)(hl:l≠[]):vv l=vv m:=by
 have h1:=N6 (h.mem_iff.1 (RL hl))
 have h2:=N6 (h.mem_iff.2 (RL (fun e=>hl (by rw[e] at h;exact h.eq_nil))))
 omega
theorem IE:∀(l:List Int) (a:Int),a≤l.foldl max a∧∀x∈l,x≤l.foldl max a
 | [],a=>⟨Int.le_refl _,fun _ h=>(by cases h)⟩
 |y::l,a=>by
  obtain⟨h1,h2⟩:=IE l (max a y)
  refine⟨by simp only[List.foldl_cons];omega,fun x hx=>?_⟩
  rcases List.mem_cons.1 hx with rfl|hx
  ·simp only[List.foldl_cons];omega
  exact h2 x hx
theorem BY:∀(l:List Int) (a:Int),l.foldl max a=a∨l.foldl max a∈l
 | [],_=> .inl rfl
 |y::l,a=>by
  simp only[List.foldl_cons]
  rcases BY l (max a y) with h|h
  ·rw[h]
   rcases(by omega:max a y=a∨max a y=y) with e|e
   ·exact .inl e
   rw[e];exact .inr List.mem_cons_self
  exact .inr (List.mem_cons_of_mem _ h)
theorem YH{l:List Int}{x:Int}(h:x∈l):x≤Dm l:=by
 cases l with
 |nil=>cases h
 |cons y l=>
  rcases List.mem_cons.1 h with rfl|h
  ·exact(IE l _).1
  exact(IE l _).2 x h
theorem RM:∀ {l:List Int},l≠[]→Dm l∈l
 | [],h=>absurd rfl h
 |y::l,_=>by
  show l.foldl max y∈_
  rcases BY l y with h|h
  ·rw[h];exact List.mem_cons_self
  exact List.mem_cons_of_mem _ h
theorem abo{l m:List Int}(h:l.Perm m)(hl:l≠[]):Dm l=Dm m:=by
 have h1:=YH (h.mem_iff.1 (RM hl))
 have h2:=YH (h.mem_iff.2 (RM (fun e=>hl (by rw[e] at h;exact h.eq_nil))))
 omega
theorem N9{β:Type}{f:α→β}{l:List α}(h:l≠[]):l.map f≠[]:=fun e=>h (List.map_eq_nil_iff.1 e)
abbrev fsT:List bK:=[⟨2,1,true⟩,⟨0,1,true⟩]
theorem cC(h:0≤n∧n≤4):jm (aX n):=asd (fs:=[]) h (by decide) (by simp) .nil
theorem cV:eH (aX n):=asb (fs:=[]) (by decide) (by simp)
theorem cCT:jm (EX 2 fsT):=asd (by decide) (by decide) (by decide) (by decide)
theorem cVT:eH (EX 2 fsT):=asb (by decide) (by decide)
theorem rT:cN (aX 2)=4:=by kernel_rfl
theorem rL:vv ((cW (aX 1) (aQ (aX 1)) (fun _=>true) (dq (aX 1))).map GX)=2:=by kernel_rfl
theorem rLn:(cW (aX 1) (aQ (aX 1)) (fun _=>true) (dq (aX 1))).length=0→False:=by
 have e:Nat.beq (cW (aX 1) (aQ (aX 1)) (fun _=>true) (dq (aX 1))).length 0=false:=by kernel_rfl
 intro h;rw[h] at e;cases e
theorem r1n:(cW (aX 1) (aQ (aX 1)) (cw (aX 1).gone (aX 1).new (aX 1).ab) (dq (aX 1))).length=0→False:=by
 have e:Nat.beq (cW (aX 1) (aQ (aX 1)) (cw (aX 1).gone (aX 1).new (aX 1).ab) (dq (aX 1))).length 0=false:=by kernel_rfl
 intro h;rw[h] at e;cases e
theorem r2n:(cW (aX 2) (aQ (aX 2)) (cw (aX 2).gone (aX 2).new (aX 2).ab) (dq (aX 2))).length=0→False:=by
 have e:Nat.beq (cW (aX 2) (aQ (aX 2)) (cw (aX 2).gone (aX 2).new (aX 2).ab) (dq (aX 2))).length 0=false:=by kernel_rfl
 intro h;rw[h] at e;cases e
theorem rM1:vv ((cW (aX 2) (aQ (aX 2)) (cw (aX 2).gone (aX 2).new (aX 2).ab) (dq (aX 2))).map fun x=>x.ab)=0:=by kernel_rfl
theorem rM2:Dm ((cW (aX 2) (aQ (aX 2)) (cw (aX 2).gone (aX 2).new (aX 2).ab) (dq (aX 2))).map fun x=>x.ab)=2:=by kernel_rfl
theorem rU:pO (ax (cW (aX 1) (aQ (aX 1)) (cw (aX 1).gone (aX 1).new (aX 1).ab) (dq (aX 1)))) (((cW (aX 1) (aQ (aX 1)) (cw (aX 1).gone (aX 1).new (aX 1).ab) (dq (aX 1))).length:Nat):Int) (aX 1).after.length (aX 1).before.length=[[0,0],[2,1]]:=by kernel_rfl
theorem rW:Nj (EX 2 fsT) (dq (EX 2 fsT))=some 1:=by kernel_rfl
theorem rL1:mE 1 4=[0]:=by kernel_rfl
theorem rA:(W7 (acF (ax (cW (aX 2) (aQ (aX 2)) (cw (aX 2).gone (aX 2).new (aX 2).ab) (dq (aX 2)))) (((cW (aX 2) (aQ (aX 2)) (cw (aX 2).gone (aX 2).new (aX 2).ab) (dq (aX 2))).length:Nat):Int) (aX 2).after.length (aX 2).before.length)).2.2=(2,0):=by kernel_rfl
theorem aaR(hK:eR ro l (aX 2)):CH zT 15 [.agg ⟨l⟩] ro [] (fun r Y=>r= .tuple ⟨[zI 4,zI 0]⟩∧Y=[]):=
 (agu hK (cC (by decide)) cV).mono fun v X h=>⟨by rw[h.1,rT];rfl,h.2⟩
theorem aeV(hK:eR ro l (aX 1)):CH zT 36 [.agg ⟨l⟩] ro [] (fun r Y=>r= .tuple ⟨[zI 2,zI 0]⟩∧Y=[]):=
 (anK hK (cC (by decide)) cV).mono fun v X ⟨zs,m,e,hz,hY,hr,h⟩=>by
  rcases h with ⟨h,_⟩| ⟨h,hm,he⟩
  ·exact(rLn (by rw[←hz.length_eq,h];rfl)).elim
  exact⟨by rw[hr,hm,he,Ml (hz.map GX) (N9 h),rL],hY⟩
theorem amB(hK:eR ro l (aX 1)):CH zT 22 [.agg ⟨l⟩] ro [] (fun r Y=>∃v,r= .tuple ⟨[v,zI 0]⟩∧∀aC,Knows aC Y→LL aC v [[0,0],[2,1]]):=
 (avn hK cV (mY (cC (by decide))) (AI hK (cC (by decide)) cV) I1).mono fun r X ⟨zs,v,e,hz,hr,h⟩=>by
  rcases h with ⟨h,_⟩| ⟨h,he,hl⟩
  ·exact(r1n (by rw[←hz.length_eq,h];rfl)).elim
  refine⟨v,by rw[hr,he],fun aC hk=>?_⟩
  have:=hl aC hk
  rwa[xm hz,hz.length_eq,rU] at this
theorem aeU(hK:eR ro l (aX 2)):CH zT 35 [.agg ⟨l⟩] ro [] (fun r Y=>r= .tuple ⟨[.agg ⟨[zI 0,zI 2]⟩,zI 0]⟩∧Y=[]):=
 (avp hK cV (mY (cC (by decide))) (AI hK (cC (by decide)) cV)).mono fun r X ⟨zs,a,b,e,hz,hY,hr,h⟩=>by
  rcases h with ⟨h,_⟩| ⟨h,ha,hb,he⟩
  ·exact(r2n (by rw[←hz.length_eq,h];rfl)).elim
  exact⟨by rw[hr,ha,hb,he,Ml (hz.map _) (N9 h),abo (hz.map _) (N9 h),rM1,rM2],hY⟩
theorem at1(hK:eR ro l (aX 2)):CH zT 40 [.agg ⟨l⟩] ro [] (fun r Y=>∃a b,r= .tuple ⟨[zI a,zI b,zI 2,zI 0]⟩∧Y=[]):=
 (aOH hK cV (mY (cC (by decide))) (AI hK (cC (by decide)) cV) I1).mono fun r X ⟨zs,a,b,w,e,hz,hY,hr,h⟩=>by
  rcases h with ⟨h,_⟩| ⟨h,ha⟩
  ·exact(r2n (by rw[←hz.length_eq,h];rfl)).elim
  rw[xm hz,hz.length_eq] at ha
  have h2:=congrArg (fun x:Int×Int×Int×Int=>x.2.2) ha
  dsimp only at h2
  rw[rA] at h2
  cases h2
  exact⟨a,b,hr,hY⟩
theorem aeT(hK:eR ro l (EX 2 fsT)):dQ zT 37 [.agg ⟨l⟩] ro [] (fun r Y=>∃v,r= .tuple ⟨[v,zI 0]⟩∧aw v 1 3 cD [0] Y):=
 Fn.mono (au6 hK cVT (mY cCT) (AI hK cCT cVT) (by decide)) fun en s' ⟨r,X,h1,h2,v,e,hr,h⟩=>⟨r,X,h1,h2,by
  rcases h with ⟨m,hm,ho,he⟩| ⟨hm,_⟩
  ·rw[rW] at hm;cases hm
   rw[rL1] at ho
   exact⟨v,by rw[hr,he],ho⟩
  rw[rW] at hm;cases hm⟩
theorem agm{v4:Value}{fa:Option Addr}(h:eR ro [v0,v1,.slice fa 0 fc,v3,v4,v5,v6,v7,zI 1,zI 1,zI n,vb] (aX n))(hf:a8 ro vf 3 kJ fs):eR ro [v0,v1,.slice fa 0 fc,v3,v4,v5,v6,v7,zI 1,zI 1,zI n,vf] (EX n fs):=by
 obtain⟨w0,w1,w3,w4,w5,w6,w7,wb,ga,gc,hv,e,h1,h2,h3,h4,h5,h6,h7,_⟩:=h
 cases e
 exact⟨_,_,_,_,_,_,_,_,_,_,hv,rfl,h1,h2,h3,h4,h5,h6,h7,hf⟩
theorem Qr{v4:Value}{fa fb:Option Addr}{fn fd:Nat}(h:∀v∈[v0,v1,v3,v4,v5,v6,v7,vb],single v=true):∀v∈[v0,v1,.slice fa 0 fc,v3,v4,v5,v6,v7,zI 1,zI 1,zI 2,.slice fb fn fd],single v=true:=by
 simp only[List.mem_cons,List.not_mem_nil,or_false] at h ⊢
 rintro v (rfl|rfl|rfl|rfl|rfl|rfl|rfl|rfl|rfl|rfl|rfl|rfl)<;>first|rfl|exact h _ (by simp)
theorem LL.up{aC:Nat→Option Obj}{v:Value}{W:List (List Int)}(h:LL ro v W)(hs:Sub ro aC):LL aC v W:=by
 obtain⟨ws,h1,h2⟩:=h
 exact⟨ws,h1.up hs,h2.imp fun _ _ k=>k.up hs⟩
theorem aHr(a b c d:Int):EqV zT 93 (.agg ⟨[zI a,zI b]⟩) (.agg ⟨[zI c,zI d]⟩) (a==c&&(b==d&&true)):=
 uI (jO (dep:=9999) (ig Tryz.typeInfo93 Tryz.underlying93 rfl rfl rfl rfl rfl rfl) Tryz.stoodInHeld93 (.cons (by decide) (cg fw rfl) (cg fw rfl) (gk fw _ _) (.cons (by decide) (cg fw rfl) (cg fw rfl) (gk fw _ _) .nil)))
theorem aOk:jR zT 93:=by unfold jR;kernel_rfl
theorem Bs:CH zT 9 [] ro [] (fun r Y=>r= .bool true∧Y=[]):=by
 refine Ad ar [] [] aU fun fr=>zD 6<|jc (vs:=[zI 2]) [] (Na) ?_
 rintro _ Y16 ⟨l16,rfl,aSQ,FM⟩
 refine jf [0] Y16 (fun yt bL iJ=>?_)
 have aTe:=aSQ _ iJ
 refine JF (vs:=[(.agg ⟨l16⟩)]) [] (fun _ _ h=>h) (aaR aTe) ?_
 rintro _ _ ⟨rfl,rfl⟩
 refine jg 0 []<|zD 8<|jc (vs:=[zI 1]) [] (Na) ?_
 rintro _ Y21 ⟨l21,rfl,aSP,ab5⟩
 refine jf [0] Y21 (fun ro6 kV Zm=>?_)
 have aoL:=aSP _ Zm
 refine JF (vs:=[(.agg ⟨l21⟩)]) [] (fun _ _ h=>h) (amB aoL) ?_
 rintro _ Y22 ⟨v22,rfl,aQO⟩
 refine zD 5<|jf [0] Y22 (fun ro9 sw hk8=>?_)
 have aSS:=aQO _ hk8
 refine zD 3<|jc (vs:=[zI 2]) [] (Na) ?_
 rintro _ Y26 ⟨wF,rfl,aSO,BS⟩
 refine jf [0] Y26 (fun bac aEz aQ2=>?_)
 have aTd:=aSO _ aQ2
 refine JF (vs:=[(.agg ⟨wF⟩)]) [] (fun _ _ h=>h) (aeU aTd) ?_
 rintro _ _ ⟨rfl,rfl⟩
 refine jg 0 []<|zD 3<|jn fun b5=>jd 5 [0]<|jc (vs:=[zI 1]) [] (Na) ?_
 rintro _ Y31 ⟨RZ,rfl,aSN,SP⟩
 refine jf [0] Y31 (fun bab ahl aon=>?_)
 have aTc:=aSN _ aon
 refine JF (vs:=[(.agg ⟨RZ⟩)]) [] (fun _ _ h=>h) (aeV aTc) ?_
 rintro _ _ ⟨rfl,rfl⟩
 refine jg 0 []<|zD 8<|jc (vs:=[zI 2]) [] (Na) ?_
 rintro _ Y36 ⟨l36,rfl,aSM,OJ⟩
 refine jp (vs:=[zI 2,zI 1,.bool true]) [] [] (fun aF hs hZ=>aHL)<|jp (vs:=[zI 0,zI 1,.bool true]) [] [] (fun aF hs hZ=>aHL)<|jn fun b39=>jf [1,0] (Y36++[(b39,.cells ⟨[zI 2,zI 1,.bool true,zI 0,zI 1,.bool true]⟩ 54 (0,0))]) (fun aZ9 aEy abX=>?_)
 have aTa:=aSM _ (Knows.left abX)
 have aRg:=bV (sz:=3) (enc:=kJ) (T:=54) [⟨2,1,true⟩,⟨0,1,true⟩] (Knows.right abX _ (.head _)) (fun _ _=>rfl)
 obtain⟨v0,v1,v3,v4,v5,v6,v7,vb,fa,fc,rfl,aPU⟩:=OJ
 refine jp (vs:=[.agg ⟨[v0,v1,(.slice fa 0 fc),v3,v4,v5,v6,v7,zI 1,zI 1,zI 2,vb]⟩,(.slice (some ⟨b39,0,none⟩) 2 2)]) [] [] (fun aF hs hZ=>aHK (Qr aPU))<|jc (vs:=[.agg ⟨[v0,v1,(.slice fa 0 fc),v3,v4,v5,v6,v7,zI 1,zI 1,zI 2,(.slice (some ⟨b39,0,none⟩) 2 2)]⟩]) [] (aeT (agm aTa aRg)) ?_
 rintro _ Y41 ⟨v41,rfl,aQr⟩
 refine zD 8<|jc (vs:=[zI 2]) [] (Na) ?_
 rintro _ Y45 ⟨l45,rfl,aSL,aoK⟩
 refine jf [0] Y45 (fun aZ7 aEx aQ0=>?_)
 have aS9:=aSL _ aQ0
 refine JF (vs:=[(.agg ⟨l45⟩)]) [] (fun _ _ h=>h) (at1 aS9) ?_
 rintro _ _ ⟨qa,qb,rfl,rfl⟩
 refine jg 0 []<|jd 49 [1]<|jeq aOk (aHr 0 2 0 2)<|zD 3<|jn fun b92=>jn fun b93=>jn fun b94=>jf [2,1,0] ((b92,.cells ⟨[zI 0,zI 0]⟩ 3 (0,0))::((b93,.cells ⟨[zI 2,zI 1]⟩ 3 (0,0))::[(b94,.cells ⟨[.slice (some ⟨b92,0,none⟩) 2 2,.slice (some ⟨b93,0,none⟩) 2 2]⟩ 22 (0,0))])) (fun aZ6 aEw aw2=>?_)
 obtain⟨wsM,hsM,haM⟩:=aSS.up ((((aEz.trans ahl).trans aEy).trans aEx).trans aEw)
 have aPq:=bV (sz:=1) (enc:=fB) (T:=22) [.slice (some ⟨b92,0,none⟩) 2 2,.slice (some ⟨b93,0,none⟩) 2 2] (aw2 _ (.tail _ (.tail _ (.head _)))) (fun _ _=>rfl)
 have aSE:=bV (sz:=1) (enc:=cD) (T:=3) [0,0] (aw2 _ (.head _)) (fun _ _=>rfl)
 have aSD:=bV (sz:=1) (enc:=cD) (T:=3) [2,1] (aw2 _ (.tail _ (.head _))) (fun _ _=>rfl)
 refine jp (vs:=[v22,(.slice (some ⟨b94,0,none⟩) 2 2)]) [] [] (fun aF hs hZ=>(show dv _ _ _ _ (.bool (FQ [[0,0],[2,1]] [[0,0],[2,1]])) from ayw (hsM.up hs) (aPq.up hs) (haM.imp fun _ _ h=>h.up hs) (.cons (aSE.up hs) (.cons (aSD.up hs) .nil)) (by decide) (by decide) (by decide) (by decide)))<|zD 3<|jn fun b99=>jp (vs:=[v41,.slice (some ⟨b99,0,none⟩) 1 1]) [1,0] (Y41++[(b99,.cells ⟨([0].map cD).flatten⟩ 3 (0,0))]) (fun aF hs hZ=>(show dv _ _ _ _ (.bool (IV [0] [0])) from Tl (aQr.jC hZ.left) (bV [0] hZ.right.head (by intro p hp;rfl)) (by decide) (by decide))) ?_
 refine zD 4<|Fx qC.a.a.a.a.a.a.a.a (.bool true) [3] [] (((((((bL.trans kV).trans sw).trans aEz).trans ahl).trans aEy).trans aEx).trans aEw) ⟨rfl,rfl⟩
theorem Zw{n:Nat}(hn:n≤4)(hi:i <n):hasB (IntKind.u8.wrap (dM .u8 1 (n:Int)-1)) i=true:=by
 have h:(n=1∧i=0)∨(n=2∧(i=0∨i=1))∨(n=3∧(i=0∨i=1∨i=2))∨(n=4∧(i=0∨i=1∨i=2∨i=3)):=by omega
 rcases h with ⟨rfl,rfl⟩| ⟨rfl,rfl|rfl⟩| ⟨rfl,rfl|rfl|rfl⟩| ⟨rfl,rfl|rfl|rfl|rfl⟩<;>rfl
def v9(a b:Int)(l:List bK):Bool:=l.any fun x=>(decide (x.a=a)&&decide (x.b=b))&& !x.same
def pw(p:Nat→Int)(l:List bK):Bool:=l.all fun x=> !x.same||decide (p x.a.toNat=x.b+1)
theorem XV{on:Int}{a b:Int}:∀ {l:List bK} {k:Nat},(∀j,j <l.length→hasB on ((k+j:Nat):Int)=true)→CV on a b l k=v9 a b l
 | [],_,_=>rfl
 |x::l,k,h=>by
  have h0:=h 0 (Nat.zero_lt_succ _)
  have ih:=XV (a:=a) (b:=b) (l:=l) (k:=k+1) fun j hj=>by
   have:=h (j+1) (Nat.succ_lt_succ hj)
   rwa[show k+1+j=k+(j+1) by omega]
  simp only[Nat.add_zero] at h0
  simp only[CV,h0,ih,v9,List.any_cons,Bool.true_and]
theorem Ln{on:Int}{p:Nat→Int}:∀ {l:List bK} {k:Nat},(∀j,j <l.length→hasB on ((k+j:Nat):Int)=true)→mf on p l k=pw p l
 | [],_,_=>rfl
 |x::l,k,h=>by
  have h0:=h 0 (Nat.zero_lt_succ _)
  have ih:=Ln (p:=p) (l:=l) (k:=k+1) fun j hj=>by
   have:=h (j+1) (Nat.succ_lt_succ hj)
   rwa[show k+1+j=k+(j+1) by omega]
  simp only[Nat.add_zero] at h0
  simp only[mf,h0,ih,pw,List.all_cons,Bool.true_and]
  cases x.same<;>cases decide (p x.a.toNat=x.b+1)<;>simp
def gD(F:Nat→Nat→Bool)(R:(Nat→Int)→Bool)(na:Nat):Nat→Nat→(Nat→Int)→List (Nat→Int)
 |0,_,p=>bif R p then [p] else []
 |n+1,a,p=>gD F R na n (a+1) p++(List.range na).flatMap fun b=>bif !F a b||qK p a ((b:Int)+1) then [] else gD F R na n (a+1) (iK p a ((b:Int)+1))
def wZ(K:aE)(a b:Nat):Bool:=match K.before[a]?,K.after[b]? with
 |some x,some y=> !AM K x y&&(!uM K x y&& !v9 a b K.facts)
 |_,_=>false
theorem ao6(h:K.facts.length≤4)(a b:Nat):dF K (aQ K) a b=wZ K a b:=by
 have e:CV (aQ K) a b K.facts 0=v9 a b K.facts:=XV fun j hj=>by
  rw[Nat.zero_add];exact Zw h hj
 simp only[dF,wZ,e]
 cases K.before[a]?<;>cases K.after[b]?<;>rfl
theorem oV(h:K.facts.length≤4):∀(n a:Nat) (p:Nat→Int),jb K (aQ K) n a p=gD (wZ K) (fun p=>pw p K.facts) K.after.length n a p
 |0,a,p=>by
  have e:mf (aQ K) p K.facts 0=pw p K.facts:=Ln fun j hj=>by
   rw[Nat.zero_add];exact Zw h hj
  simp only[jb,gD,e]
 |n+1,a,p=>by
  simp only[jb,gD,ao6 h,oV h n]
theorem ML{R Q:(Nat→Int)→Bool}:∀(n a:Nat) (p:Nat→Int),gD F (fun p=>R p&&Q p) na n a p=(gD F R na n a p).filter Q
 |0,_,p=>by
  simp only[gD]
  cases h1:R p<;>cases h2:Q p<;>simp[h2]
 |n+1,a,p=>by
  simp only[gD,ML n,List.filter_append,List.filter_flatMap]
  congr 2
  funext b
  cases !F a b||qK p a ((b:Int)+1)<;>simp
theorem qQ{R:(Nat→Int)→Bool}:∀(n a:Nat) (p q:Nat→Int),q∈gD F R na n a p→∀c,c <a→q c=p c
 |0,_,p,q,h,c,_=>by
  simp only[gD] at h
  cases hr:R p
  ·rw[hr] at h;simp at h
  rw[hr] at h;simp at h;rw[h]
 |n+1,a,p,q,h,c,hc=>by
  simp only[gD,List.mem_append,List.mem_flatMap] at h
  rcases h with h| ⟨b,_,h⟩
  ·exact qQ n _ _ _ h c (by omega)
  cases hx: !F a b||qK p a ((b:Int)+1)
  ·rw[hx] at h
   rw[qQ n _ _ _ h c (by omega)]
   simp only[iK]
   rw[if_neg (by omega)]
  rw[hx] at h;simp at h
theorem IA{G:Nat→Nat→Bool}{R:(Nat→Int)→Bool}{x y:Nat}(hG:∀i j,G i j=(F i j&& !(decide (i=x)&&decide (j=y)))):∀(n a:Nat) (p:Nat→Int),p x≠(y:Int)+1→gD G R na n a p=(gD F R na n a p).filter fun q=> !decide (q x=(y:Int)+1)
 |0,_,p,hp=>by
  simp only[gD]
  cases R p<;>simp[hp]
 |n+1,a,p,hp=>by
  simp only[gD,List.filter_append,List.filter_flatMap]
  rw[IA hG n _ _ hp]
  congr 2
  funext b
  by_cases hc:a=x∧b=y
  ·obtain⟨rfl,rfl⟩:=hc
   rw[hG]
   have e:(gD F R na n (a+1) (iK p a ((b:Int)+1))).filter (fun q=> !decide (q a=(b:Int)+1))=[]:=by
    refine List.filter_eq_nil_iff.2 fun q hq=>?_
    have:=qQ n _ _ _ hq a (by omega)
    rw[this]
    simp[iK]
   cases h2: !F a b||qK p a ((b:Int)+1)
   ·simp only[decide_true,Bool.and_self,Bool.not_true,Bool.and_false,Bool.not_false,Bool.true_or,cond_true,cond_false]
    exact e.symm
   simp
  have e:G a b=F a b:=by
   rw[hG]
   by_cases h1:a=x
   ·simp[h1,show ¬b=y from fun h=>hc ⟨h1,h⟩]
   simp[h1]
  rw[e]
  have hu:iK p a ((b:Int)+1) x≠(y:Int)+1:=by
   simp only[iK]
   split
   ·rename_i h;intro h2;exact hc ⟨h.symm,by omega⟩
   exact hp
  cases !F a b||qK p a ((b:Int)+1)
  ·simp only[cond_false];exact IA hG n _ _ hu
  simp
abbrev cu(K:aE)(t:bK):aE:={K with facts:=K.facts++[t]}
theorem aba(hs:t.same=true)(h:K.facts.length≤3):aN (cu K t) (aQ (cu K t))=(aN K (aQ K)).filter fun q=>decide (q t.a.toNat=t.b+1):=by
 have h1:(cu K t).facts.length≤4:=by simp;omega
 have h2:K.facts.length≤4:=by omega
 simp only[aN]
 rw[oV h1,oV h2,←ML]
 have e1:wZ (cu K t)=wZ K:=by
  funext a b
  have:v9 a b (cu K t).facts=v9 a b K.facts:=by simp[v9,hs]
  simp only[wZ,this]
  rfl
 rw[e1]
 congr 1
 funext p
 simp[pw,hs]
theorem afk(hs:t.same=false)(h:K.facts.length≤3)(ha:0≤t.a)(hb:0≤t.b):aN (cu K t) (aQ (cu K t))=(aN K (aQ K)).filter fun q=> !decide (q t.a.toNat=t.b+1):=by
 have h1:(cu K t).facts.length≤4:=by simp;omega
 have h2:K.facts.length≤4:=by omega
 simp only[aN]
 rw[oV h1,oV h2]
 have e1:(fun p=>pw p (cu K t).facts)=fun p=>pw p K.facts:=by
  funext p;simp[pw,hs]
 rw[e1]
 have hbn:((t.b.toNat:Nat):Int)=t.b:=by omega
 have:=IA (F:=wZ K) (G:=wZ (cu K t)) (R:=fun p=>pw p K.facts) (na:=K.after.length) (x:=t.a.toNat) (y:=t.b.toNat) (fun i j=>by
  have e:v9 i j (cu K t).facts=(v9 i j K.facts||(decide (i=t.a.toNat)&&decide (j=t.b.toNat))):=by
   have e1:decide (t.a=(i:Int))=decide (i=t.a.toNat):=decide_eq_decide.2 (by omega)
   have e2:decide (t.b=(j:Int))=decide (j=t.b.toNat):=decide_eq_decide.2 (by omega)
   simp[v9,hs,e1,e2]
  simp only[wZ,e]
  show (match K.before[i]?,K.after[j]? with|some x,some y=> !AM K x y&&(!uM K x y&& !(v9 i j K.facts||(decide (i=t.a.toNat)&&decide (j=t.b.toNat))))|_,_=>false)=_
  split
  ·rename_i x y _ _
   cases AM K x y<;>cases uM K x y<;>cases v9 i j K.facts<;>simp
  simp) K.before.length 0 (fun _=>0) (by show (0:Int)≠_;omega)
 rw[hbn] at this
 exact this
theorem pS{r:bD}{p:Nat→Int}(hq:q <4):pI (cB K r i p) q=p q:=by
 rcases BE hq with rfl|rfl|rfl|rfl<;>rfl
theorem E1{K':aE}{on on':Int}{keep:aj→Bool}{rows:List bD}{Q:(Nat→Int)→Bool}{S:aj→Bool}(hp:aN K' on'=(aN K on).filter Q)(hm:∀r i p,cB K' r i p=cB K r i p)(hS:∀r i p,S (cB K r i p)=Q p):cW K' on' keep rows=(cW K on keep rows).filter S:=by
 have h1:∀r i,mX K' on' keep r i=(mX K on keep r i).filter S:=fun r i=>by
  have e:(cB K' r i)=cB K r i:=funext fun p=>hm r i p
  simp only[mX,hp,e,List.filter_map,List.filter_filter]
  congr 1
  refine List.filter_congr fun p _=>?_
  simp only[Function.comp,hS]
  exact Bool.and_comm _ _
 simp only[cW,iU,List.filter_flatten,List.map_map]
 congr 1
 refine List.map_congr_left fun i _=>?_
 simp only[Function.comp,h1]
theorem Ju{keep:aj→Bool}{rows:List bD}(hs:t.same=true)(h:K.facts.length≤3)(ha:0≤t.a∧t.a <4):cW (cu K t) (aQ (cu K t)) keep rows=(cW K (aQ K) keep rows).filter fun x=>decide (pI x t.a.toNat=t.b+1):=
 E1 (aba hs h) (fun _ _ _=>rfl) fun r i p=>by rw[pS (by omega)]
theorem aah{keep:aj→Bool}{rows:List bD}(hs:t.same=false)(h:K.facts.length≤3)(ha:0≤t.a∧t.a <4)(hb:0≤t.b):cW (cu K t) (aQ (cu K t)) keep rows=(cW K (aQ K) keep rows).filter fun x=> !decide (pI x t.a.toNat=t.b+1):=
 E1 (afk hs h ha.1 hb) (fun _ _ _=>rfl) fun r i p=>by rw[pS (by omega)]
theorem UB{a b:Int}(h:K.facts.length≤3)(ha:0≤a∧a <4)(hb:0≤b):cN (cu K ⟨a,b,true⟩)+cN (cu K ⟨a,b,false⟩)=cN K:=by
 have e1:cN (cu K ⟨a,b,true⟩)=(cW (cu K ⟨a,b,true⟩) (aQ (cu K ⟨a,b,true⟩)) (cw K.gone K.new K.ab) (dq K)).length:=rfl
 have e2:cN (cu K ⟨a,b,false⟩)=(cW (cu K ⟨a,b,false⟩) (aQ (cu K ⟨a,b,false⟩)) (cw K.gone K.new K.ab) (dq K)).length:=rfl
 rw[e1,e2,Ju rfl h ha,aah rfl h ha hb,←List.countP_eq_length_filter,←List.countP_eq_length_filter]
 have:=List.length_eq_countP_add_countP (fun x:aj=>decide (pI x a.toNat=b+1)) (l:=cW K (aQ K) (cw K.gone K.new K.ab) (dq K))
 simp only[cN]
 rw[this]
 congr 2
 funext x
 simp
theorem ami{a b:Int}(h:oJ fs a b=false):∀x∈fs,¬(x.a=a∧x.b=b):=fun x hx hc=>by
 have:=List.any_eq_false.1 h x hx
 simp[hc.1,hc.2] at this
theorem jm.add(h:jm K)(h3:K.facts.length≤3)(ha:0≤t.a∧t.a <K.before.length)(hb:0≤t.b∧t.b <K.after.length)(ht:oJ K.facts t.a t.b=false):jm (cu K t):=
 ⟨h.m8,h.ways,h.cX,h.rules,h.before,h.after,h.wE,⟨by simp;omega,fun x hx=>by
  rcases List.mem_append.1 hx with hx|hx
  ·exact h.facts.2 x hx
  ·rw[List.mem_singleton.1 hx];exact⟨ha,hb⟩⟩,List.pairwise_append.2 ⟨h.apart,List.pairwise_singleton _ _,fun x hx y hy=>by
  rw[List.mem_singleton.1 hy];exact ami ht x hx⟩⟩
theorem eH.add(h:eH K)(h3:K.facts.length≤3)(ha:0≤t.a∧t.a <K.before.length)(hb:0≤t.b∧t.b <K.after.length):eH (cu K t):=
 ⟨h.rules,h.before,h.after,h.cX,⟨by simp;omega,fun x hx=>by
  rcases List.mem_append.1 hx with hx|hx
  ·exact h.facts.2 x hx
  rw[List.mem_singleton.1 hx];exact⟨ha,hb⟩⟩⟩
set_option maxHeartbeats 2000000 in
theorem agJ (hK:eR ro l K) (hO:jm K):dQ zT 14 [.agg ⟨l⟩] ro [] (fun r Y=>∃(v0 v1 v3 v4 v5 v6 v7 vb:Value) (fa:Option Addr) (fc:Nat) (LF Z:Cells),r= .agg ⟨[v0,v1,.slice fa 0 fc,v3,v4,v5,v6,v7,zI K.gone,zI K.new,zI K.ab,vb]⟩∧(∀v∈[v0,v1,v3,v4,v5,v6,v7,vb],single v=true)∧aw vb 3 54 kJ K.facts LF∧(∀aC,Sub ro aC→Knows aC Z→∀(vf:Value) (fs:List bK),a8 aC vf 3 kJ fs→eR aC [v0,v1,.slice fa 0 fc,v3,v4,v5,v6,v7,zI K.gone,zI K.new,zI K.ab,vf] {K with facts:=fs})∧Y=LF++Z):=by
 obtain⟨vS,vT,vc,vh,vr,vb,va,vf,fa,fc,hv,rfl,hS,hT,nF,mH,hr,hb,ha,hf⟩:=hK
 obtain⟨fD,hs,ei⟩:=id hS
 obtain⟨fK,ht,dY⟩:=id hT
 obtain⟨hc,hh,rJ⟩:=id nF
 obtain⟨kg,PO,PM,jo,rfl,PN,Gg,Gf⟩:=hs
 obtain⟨eB,yM,yK,dH,rfl,yL,qt,qp⟩:=ht
 obtain⟨dS,yw,yu,dP,rfl,AR,vK,vJ⟩:=hc
 obtain⟨dC,s9,s8,de,rfl,uX,pJ,pH⟩:=hh
 obtain⟨ju,Fg,Ff,jq,rfl,Kb,Ey,Ex⟩:=hr
 obtain⟨jD,Hf,Hd,jv,rfl,He,Gi,Gh⟩:=hb
 obtain⟨iW,Fs,Fj,iQ,rfl,Fo,EA,Ez⟩:=ha
 obtain⟨fp,td,tb,eS,rfl,wu,pM,pK⟩:=hf
 have yR:=hO.rules
 have pF:=hO.before.1
 have JL:=hO.after.1
 have JK:=hO.facts.1
 have MC:=hO.ways.1
 have Gs:=ei.len
 have DE:=dY.len
 have Ua:=hO.m8.two
 have Zk:=hO.cX.nh
 have Hb:∀(i:Nat) (p:bU),([]:List bU)[i]?=some p→cb ⟨ro,[]⟩ 0 (0+i*6) 6 (jF p):=fun _ _ h=>lR h
 refine zE<|zD 2<|jn fun b1=>jn fun b2=>zD 3<|jn fun b6=>jd 3 [2]<|gL (sz:=6) (ps:=[]) (qs:=([]:List bU)) (enc:=jF) (w:= .slice fa 0 fc) [0] [] [] (aO (b:=b6) (T:=179)) (fun s he _=>⟨fa,0,0,fc,rfl,(fun _ h=>absurd h (Nat.not_lt_zero _)),fun i p hp=>(Hb i p hp).ext he⟩) (fun p _=>ah rfl) (by simp<;>omega) (fun v10 L10 Ib=>?_)
 rw[List.nil_append] at Ib
 obtain⟨vQ,vP,ais⟩:=Ib.form
 subst ais
 refine zD 1<|jn fun b3=>jd 8 [0]<|nB<|nB<|dL [1,1,0,1,0,0] [] (fun(zz:Nat×Value×Cells×(List Value)×Cells)=>[(1,zP b1),(2,zP b2),(3,zP b3),(4,zI (zz.1:Int))]) (fun zz=>[.b b3 (.cells ⟨[zz.2.1,zS,(.slice vQ (([]:List bU)).length vP)]⟩ 31 (0,0)),.l zz.2.2.1,.l zz.2.2.2.2,.l L10,.b b2 (.cells ⟨zO⟩ 40 (0,0)),.b b1 (.cells ⟨[.slice kg fD.length jo,.slice eB fK.length dH,.slice fa 0 fc,.slice dS K.cs.length dP,.slice dC hv.length de,.slice ju K.rules.length jq,.slice jD K.before.length jv,.slice iW K.after.length iQ,zI K.gone,zI K.new,zI K.ab,.slice fp K.facts.length eS]⟩ 40 (0,0))]) (fun zz=>(zz.1≤fD.length∧zz.2.2.2.1.length=zz.1)∧aw zz.2.1 1 74 fB zz.2.2.2.1 zz.2.2.1∧∀aC,Knows aC zz.2.2.2.2→dc (fun w l=>a8 aC w 2 cA l) zz.2.2.2.1 (K.str.take zz.1)) (fun zz=>fD.length-zz.1) (⟨0,zS,[],[],[]⟩) ⟨⟨by omega,rfl⟩,aw.nil _ _ _,fun _ _=> .nil⟩ [2,1,0,3,4,5] ?_
 rintro⟨i,v0,L0,ps,Z⟩ hI K1 bE rest
 dsimp only at hI
 refine jd 11 [5]<|zJ 18 ((i:Int) <(fD.length:Int)) (fun h1=>?_) fun h1=>?_
 ·
  refine jd 13 [0,5] ?_
  obtain⟨oH,jL⟩:=zG fD i
  refine fL jo 1 Gg jL ?_
  obtain⟨RZ,ah5,h31⟩:=ei.get jL
  obtain aQN:=hO.m8.len _ (zL ah5)
  obtain⟨ae7,aul,aui,ae6,rfl,aNm,auk,auj⟩:=h31
  refine jl 0 (Gf _ _ jL)<|aS 3 fun A1 Bn Av=>jn fun Jp=>ep Av (zN 1 6)<|aS 11 fun rZ r8 qM=>gL (sz:=2) (ps:=[]) (qs:=RZ) (enc:=cA) (w:= .slice ae7 RZ.length ae6) [0] [] [] (aO (b:=Jp) (T:=73)) (fun s he _=>⟨ae7,aul,aui,ae6,rfl,auk,fun i p hp=>(auj i p hp).ext he⟩) (fun p _=>ah rfl) (by simp<;>omega) (fun v32 L32 Aj=>?_)
  rw[List.nil_append] at Aj
  obtain⟨zg,zf,V5⟩:=Aj.form
  subst V5
  refine fR qM [[6],[1]]<|aS 12 fun sL sR qL=>jn fun b33=>ep qL (zN 1 7)<|aS 13 fun A0 Bm Au=>gL (sz:=1) (ps:=ps) (qs:=[((.slice zg (RZ).length zf):Value)]) (enc:=fB) (w:= .slice (some ⟨b33,0,none⟩) 1 1) [3] [0] [(b33,.cells ⟨([((.slice zg (RZ).length zf):Value)].map fB).flatten⟩ 74 (0,0))] (hI.2.1) (fun s _ hZ=>bN [((.slice zg (RZ).length zf):Value)] (hZ _ (.head _)) (by intro p hp;rfl)) (by intro p hp;rw[List.mem_singleton] at hp;subst hp;exact ah rfl) (by simp<;>omega) (fun v34 L34 H7=>?_)
  obtain⟨Uy,Us,V4⟩:=H7.form
  subst V4
  refine fR Au [[7]]<|zD 2<|aS 16 fun adl aeb hL6=>jd 1 [3]<|fR hL6 []<|zD 3<|ja ((i:Int)+1) (by omega)<|zD 2<|HM bE (⟨i+1,(.slice Uy ((ps++[((.slice zg (RZ).length zf):Value)])).length Us),L34,(ps++[((.slice zg (RZ).length zf):Value)]),L32++Z⟩) ⟨⟨by dsimp only;omega,by simp only[zM];omega⟩,H7,fun aC hk=>mL (hI.2.2 aC hk.right) ah5 (Aj.jC hk.left)⟩ (by omega) [[3],[0],[2,4],[5],[6],[7]] (Sub.refl _)
 refine zD 8<|nB<|nB<|dL [1,1,1,0,1,0,0] [] (fun(zz:Nat×Value×Cells×(List Value)×Cells)=>[(1,zP b1),(2,zP b2),(3,zP b3),(5,zI (zz.1:Int))]) (fun zz=>[.b b3 (.cells ⟨[v0,zz.2.1,(.slice vQ (([]:List bU)).length vP)]⟩ 31 (0,0)),.l zz.2.2.1,.l zz.2.2.2.2,.l L0,.l Z,.l L10,.b b2 (.cells ⟨zO⟩ 40 (0,0)),.b b1 (.cells ⟨[.slice kg fD.length jo,.slice eB fK.length dH,.slice fa 0 fc,.slice dS K.cs.length dP,.slice dC hv.length de,.slice ju K.rules.length jq,.slice jD K.before.length jv,.slice iW K.after.length iQ,zI K.gone,zI K.new,zI K.ab,.slice fp K.facts.length eS]⟩ 40 (0,0))]) (fun zz=>(zz.1≤fK.length∧zz.2.2.2.1.length=zz.1)∧aw zz.2.1 1 81 fB zz.2.2.2.1 zz.2.2.1∧∀aC,Knows aC zz.2.2.2.2→dc (fun w l=>a8 aC w 7 iu l) zz.2.2.2.1 (K.ways.take zz.1)) (fun zz=>fK.length-zz.1) (⟨0,zS,[],[],[]⟩) ⟨⟨by omega,rfl⟩,aw.nil _ _ _,fun _ _=> .nil⟩ [2,1,0,3,4,5,6,7] ?_
 rintro⟨j,v1,L1,qs,Z1⟩ hG K7 hK7 rest
 dsimp only at hG
 refine jd 10 [7]<|zJ 42 ((j:Int) <(fK.length:Int)) (fun h7=>?_) fun h7=>?_
 ·
  refine jd 11 [0,7] ?_
  obtain⟨x52,wI⟩:=zG fK j
  refine fL dH 1 qt wI<|zD 1 ?_
  obtain⟨HJ,Kx,h54⟩:=dY.get wI
  obtain aFg:=(hO.ways.2 _ (zL Kx)).1.2
  obtain⟨Vd,amK,amJ,Q5,rfl,aCA,ae5,ae4⟩:=h54
  refine jl 0 (qp _ _ wI)<|aS 2 fun P8 Qv OH=>jn fun b47=>ep OH (zN 1 8)<|aS 10 fun Ni Nt KD=>gL (sz:=7) (ps:=[]) (qs:=HJ) (enc:=iu) (w:= .slice Vd HJ.length Q5) [0] [] [] (aO (b:=b47) (T:=77)) (fun s he _=>⟨Vd,amK,amJ,Q5,rfl,ae5,fun i p hp=>(ae4 i p hp).ext he⟩) (fun p _=>ah rfl) (by simp<;>omega) (fun v55 L55 Ai=>?_)
  rw[List.nil_append] at Ai
  obtain⟨GM,GK,axf⟩:=Ai.form
  subst axf
  refine fR KD [[8],[1]]<|zD 1<|aS 12 fun yG yI qN=>jn fun b57=>ep qN (zN 1 9)<|aS 13 fun Eh Eo wQ=>gL (sz:=1) (ps:=qs) (qs:=[((.slice GM (HJ).length GK):Value)]) (enc:=fB) (w:= .slice (some ⟨b57,0,none⟩) 1 1) [3] [0] [(b57,.cells ⟨([((.slice GM (HJ).length GK):Value)].map fB).flatten⟩ 81 (0,0))] (hG.2.1) (fun s _ hZ=>bN [((.slice GM (HJ).length GK):Value)] (hZ _ (.head _)) (by intro p hp;rfl)) (by intro p hp;rw[List.mem_singleton] at hp;subst hp;exact ah rfl) (by simp<;>omega) (fun v58 L58 H4=>?_)
  obtain⟨Ux,Ur,Ik⟩:=H4.form
  subst Ik
  refine fR wQ [[9]]<|zD 1<|aS 15 fun GC GS wP=>jd 1 [3]<|gA wP<|zD 3<|ja ((j:Int)+1) (by omega)<|zD 2<|HM hK7 (⟨j+1,(.slice Ux ((qs++[((.slice GM (HJ).length GK):Value)])).length Ur),L58,(qs++[((.slice GM (HJ).length GK):Value)]),L55++Z1⟩) ⟨⟨by dsimp only;omega,by simp only[zM];omega⟩,H4,fun aC hk=>mL (hG.2.2 aC hk.right) Kx (Ai.jC hk.left)⟩ (by omega) [[3],[0],[2,4],[5],[6],[7],[8],[9]] (Sub.refl _)
 refine zD 3<|EL [1,1,1,1,1] [] (fun(zz:(Option Addr)×Nat×(Option Addr)×Nat×(List aY)×Cells×Value×Cells)=>[(1,zP b1),(2,zP b2)]) (fun zz=>[.b b1 (.cells ⟨[v0,v1,(.slice vQ (([]:List bU)).length vP),(.slice zz.1 K.cs.length zz.2.1),(.slice zz.2.2.1 zz.2.2.2.2.1.length zz.2.2.2.1),zz.2.2.2.2.2.2.1,.slice jD K.before.length jv,.slice iW K.after.length iQ,zI K.gone,zI K.new,zI K.ab,.slice fp K.facts.length eS]⟩ 40 (0,0)),.l zz.2.2.2.2.2.2.2,.l zz.2.2.2.2.2.1,.b b3 (.cells ⟨[v0,v1,(.slice vQ (([]:List bU)).length vP)]⟩ 31 (0,0)),.l L1,.l Z1,.l L0,.l Z,.l L10,.b b2 (.cells ⟨zO⟩ 40 (0,0))]) (fun zz=>dc du zz.2.2.2.2.1 K.hd∧(∀aC,Sub ro aC→Knows aC zz.2.2.2.2.2.1→iv aC (.slice zz.1 K.cs.length zz.2.1) (.slice zz.2.2.1 zz.2.2.2.2.1.length zz.2.2.2.1) K.cs zz.2.2.2.2.1 K.hd)∧aw zz.2.2.2.2.2.2.1 2 84 fW K.rules zz.2.2.2.2.2.2.2) ?_ (fun K13 OQ=>?_)
 ·
  rintro⟨ta,tc,ua,uc,hw,ZT,vR,LR⟩ hJ rest
  dsimp only at hJ
  refine zD 1<|EL [1,1,1,1,1,1] [] (fun(zz:Value×Cells×Value×Cells×Value×Cells)=>[(1,zP b1),(2,zP b2)]) (fun zz=>[.b b1 (.cells ⟨[v0,v1,(.slice vQ (([]:List bU)).length vP),(.slice ta K.cs.length tc),(.slice ua hw.length uc),vR,zz.1,zz.2.2.1,zI K.gone,zI K.new,zI K.ab,zz.2.2.2.2.1]⟩ 40 (0,0)),.l zz.2.1,.l zz.2.2.2.1,.l zz.2.2.2.2.2,.l LR,.l ZT,.b b3 (.cells ⟨[v0,v1,(.slice vQ (([]:List bU)).length vP)]⟩ 31 (0,0)),.l L1,.l Z1,.l L0,.l Z,.l L10,.b b2 (.cells ⟨zO⟩ 40 (0,0))]) (fun zz=>aw zz.1 5 44 di K.before zz.2.1∧aw zz.2.2.1 5 44 di K.after zz.2.2.2.1∧aw zz.2.2.2.2.1 3 54 kJ K.facts zz.2.2.2.2.2) ?_ (fun K14 KE=>?_)
  ·
   rintro⟨vB,LB,vA,LA,vF,LF⟩ hM rest
   dsimp only at hM
   refine jd 3 [0] ?_
   obtain⟨atg,as4,axo⟩:=hI.2.1.form
   subst axo
   obtain⟨rh,qj,rj⟩:=hG.2.1.form
   subst rj
   obtain⟨atf,as3,OE⟩:=hJ.2.2.form
   subst OE
   obtain⟨ate,as2,aiq⟩:=hM.1.form
   subst aiq
   obtain⟨vo,vk,FK⟩:=hM.2.1.form
   subst FK
   obtain⟨UA,Qi,Im⟩:=hM.2.2.form
   subst Im
   refine jd 3 [12]<|zR (.agg ⟨[(.slice atg (ps).length as4),(.slice rh (qs).length qj),(.slice vQ (([]:List bU)).length vP),(.slice ta K.cs.length tc),(.slice ua hw.length uc),(.slice atf (K.rules).length as3),(.slice ate (K.before).length as2),(.slice vo (K.after).length vk),zI K.gone,zI K.new,zI K.ab,(.slice UA (K.facts).length Qi)]⟩) [12] [3,1,2,4,5,7,8,9,10,11] (LF++(LB++(LA++(LR++(ZT++(L1++(Z1++(L0++(Z++L10))))))))) ⟨_,_,_,_,_,_,_,_,_,_,_,_,rfl,qn (cv hI.2.1) (cv hG.2.1) rfl rfl (cv hJ.2.2) (cv hM.1) (cv hM.2.1) (cv hM.2.2),hM.2.2,fun aC oC hk vf fs hvf=>⟨_,_,_,_,_,_,_,_,_,_,hw,rfl,⟨_,hI.2.1.jC hk.right.right.right.right.right.right.left,by have:=hI.2.2 aC hk.right.right.right.right.right.right.right.left;rwa[List.take_of_length_le (by omega)] at this⟩,⟨_,hG.2.1.jC hk.right.right.right.right.left,by have:=hG.2.2 aC hk.right.right.right.right.right.left;rwa[List.take_of_length_le (by omega)] at this⟩,hJ.2.1 aC oC hk.right.right.right.left,hJ.1,hJ.2.2.jC hk.right.right.left,hM.1.jC hk.left,hM.2.1.jC hk.right.left,hvf⟩,rfl⟩
  refine jd 7 [0,0,0]<|Gm [2,6] ⟨fun z15 t16 DK=>?_,fun z18 t19 ON=>?_,trivial⟩
  ·
   refine jc (vs:=[.slice jD K.before.length jv]) [] (iF (show a8 _ _ _ _ _ from ⟨jD,Hf,Hd,jv,rfl,He,Gi,Gh⟩) (by omega)) ?_
   rintro v73 L73 ⟨_,Am,rfl⟩
   refine ep DK (zN 1 10)<|zD 1<|Gm [5,6] ⟨fun z21 t22 OM=>?_,fun z24 t25 BS=>?_,trivial⟩
   ·
    refine jc (vs:=[.slice iW K.after.length iQ]) [] (iF (show a8 _ _ _ _ _ from ⟨iW,Fs,Fj,iQ,rfl,Fo,EA,Ez⟩) (by omega)) ?_
    rintro v76 L76 ⟨_,wM,rfl⟩
    refine ep OM (zN 1 11)<|aS 6 fun KS K0 DJ=>jn fun b77=>ep DJ (zN 1 12)<|aS 9 fun Qa Qx Iw=>gL (sz:=3) (ps:=[]) (qs:=K.facts) (enc:=kJ) (w:= .slice fp K.facts.length eS) [0] [] [] (aO (b:=b77) (T:=54)) (fun s he _=>⟨fp,td,tb,eS,rfl,pM,fun i p hp=>(pK i p hp).ext he⟩) (fun p _=>ah rfl) (by simp<;>omega) (fun v80 L80 gB=>?_)
    rw[List.nil_append] at gB
    obtain⟨GL,GJ,Ij⟩:=gB.form
    subst Ij
    refine fR Iw []<|aS 11 (fun P9 Qw Iv=>?_)
    obtain⟨Uz,Ut,OD⟩:=Am.form
    subst OD
    refine jd 1 [3]<|gA Iv<|zD 1<|aS 13 (fun adp aef Wk=>?_)
    obtain⟨atb,asZ,axm⟩:=wM.form
    subst axm
    refine jd 1 [3]<|gA Wk<|zD 1<|aS 15 fun ado aee SP=>jd 1 [3]<|gA SP<|zD 1<|bF KE ⟨(.slice Uz (K.before).length Ut),L73,(.slice atb (K.after).length asZ),L76,(.slice GL (K.facts).length GJ),L80⟩ ⟨Am,wM,gB⟩ Nat.zero_lt_one [3,2,1,0,4,5,6,7,8,9,10,11,12] (Sub.refl _)
   refine jn fun b77=>ep BS (zN 1 11)<|aS 5 fun ap1 aqo Wj=>jc (vs:=[.slice iW K.after.length iQ]) [] (iF (show a8 _ _ _ _ _ from ⟨iW,Fs,Fj,iQ,rfl,Fo,EA,Ez⟩) (by omega)) ?_
   rintro v76 L76 ⟨_,wM,rfl⟩
   refine ep Wj (zN 1 12)<|aS 9 fun aAx aBp axW=>gL (sz:=3) (ps:=[]) (qs:=K.facts) (enc:=kJ) (w:= .slice fp K.facts.length eS) [1] [] [] (aO (b:=b77) (T:=54)) (fun s he _=>⟨fp,td,tb,eS,rfl,pM,fun i p hp=>(pK i p hp).ext he⟩) (fun p _=>ah rfl) (by simp<;>omega) (fun v80 L80 gB=>?_)
   rw[List.nil_append] at gB
   obtain⟨GL,GJ,Ij⟩:=gB.form
   subst Ij
   refine fR axW []<|aS 11 (fun aAw aBo axV=>?_)
   obtain⟨zg,zf,V5⟩:=Am.form
   subst V5
   refine jd 1 [3]<|gA axV<|zD 1<|aS 13 (fun aAv aBn aiU=>?_)
   obtain⟨Uy,Us,V4⟩:=wM.form
   subst V4
   refine jd 1 [3]<|gA aiU<|zD 1<|aS 15 fun adn aed OJ=>jd 1 [3]<|gA OJ<|zD 1<|bF KE ⟨(.slice zg (K.before).length zf),L73,(.slice Uy (K.after).length Us),L76,(.slice GL (K.facts).length GJ),L80⟩ ⟨Am,wM,gB⟩ Nat.zero_lt_one [3,2,1,0,4,5,6,7,8,9,10,11,12] (Sub.refl _)
  refine jn fun b77=>ep ON (zN 1 10)<|aS 2 fun adm aec Wi=>jc (vs:=[.slice jD K.before.length jv]) [] (iF (show a8 _ _ _ _ _ from ⟨jD,Hf,Hd,jv,rfl,He,Gi,Gh⟩) (by omega)) ?_
  rintro v73 L73 ⟨_,Am,rfl⟩
  refine ep Wi (zN 1 11)<|zD 1<|aS 5 fun ap0 aqn aiT=>jc (vs:=[.slice iW K.after.length iQ]) [] (iF (show a8 _ _ _ _ _ from ⟨iW,Fs,Fj,iQ,rfl,Fo,EA,Ez⟩) (by omega)) ?_
  rintro v76 L76 ⟨_,wM,rfl⟩
  refine ep aiT (zN 1 12)<|aS 9 fun apZ aqm aiS=>gL (sz:=3) (ps:=[]) (qs:=K.facts) (enc:=kJ) (w:= .slice fp K.facts.length eS) [2] [] [] (aO (b:=b77) (T:=54)) (fun s he _=>⟨fp,td,tb,eS,rfl,pM,fun i p hp=>(pK i p hp).ext he⟩) (fun p _=>ah rfl) (by simp<;>omega) (fun v80 L80 gB=>?_)
  rw[List.nil_append] at gB
  obtain⟨GL,GJ,Ij⟩:=gB.form
  subst Ij
  refine fR aiS []<|aS 11 (fun aAu aBm axU=>?_)
  obtain⟨Nq,Nn,OC⟩:=Am.form
  subst OC
  refine jd 1 [3]<|gA axU<|zD 1<|aS 13 (fun aAt aBl aiR=>?_)
  obtain⟨as8,asW,axi⟩:=wM.form
  subst axi
  refine jd 1 [3]<|gA aiR<|zD 1<|aS 15 fun aAs aBk axT=>jd 1 [3]<|gA axT<|zD 1<|bF KE ⟨(.slice Nq (K.before).length Nn),L73,(.slice as8 (K.after).length asW),L76,(.slice GL (K.facts).length GJ),L80⟩ ⟨Am,wM,gB⟩ Nat.zero_lt_one [3,2,1,0,4,5,6,7,8,9,10,11,12] (Sub.refl _)
 refine jd 7 [0,7,7]<|Gm [3,4] ⟨fun z43 t44 aoK=>?_,fun z46 t47 axS=>?_,trivial⟩
 ·
  refine jc [] (ur hO.cX nF mH) ?_
  rintro _ Xc ⟨VL,ayL,axJ,ayI,axz,_,rfl,HY,HX,rfl⟩
  refine ep aoK (zN 1 8)<|aS 4 fun aAr aBj axR=>jn fun b64=>ep axR (zN 1 9)<|aS 7 fun aAq aBi aiQ=>gL (sz:=2) (ps:=[]) (qs:=K.rules) (enc:=fW) (w:= .slice ju K.rules.length jq) [0] [] [] (aO (b:=b64) (T:=84)) (fun s he _=>⟨ju,Fg,Ff,jq,rfl,Ey,fun i p hp=>(Ex i p hp).ext he⟩) (fun p _=>ah rfl) (by simp<;>omega) (fun v67 L67 mr=>?_)
  rw[List.nil_append] at mr
  obtain⟨Uv,Up,V3⟩:=mr.form
  subst V3
  refine fR aiQ [[2]]<|aS 9 (fun apY aql aiP=>?_)
  obtain⟨Np,Nm,Il⟩:=hI.2.1.form
  subst Il
  obtain⟨aLO,aLn,axg⟩:=hG.2.1.form
  subst axg
  refine jd 1 [9]<|gA aiP<|zD 1<|aS 11 fun apX aqk aiO=>jd 1 [9]<|gA aiO<|zD 1<|aS 13 fun apW aqj aiN=>jd 1 [9]<|gA aiN<|zD 1<|bF OQ ⟨_,_,_,_,VL,Xc,(.slice Uv (K.rules).length Up),L67⟩ ⟨HY,HX,mr⟩ Nat.zero_lt_one [9,0,1,2,3,4,5,6,7,8] (Sub.refl _)
 refine jn fun b64=>ep axS (zN 1 8)<|aS 3 fun apU aqi aiM=>jc [] (ur hO.cX nF mH) ?_
 rintro _ Xc ⟨VL,ayL,axJ,ayI,axz,_,rfl,HY,HX,rfl⟩
 refine ep aiM (zN 1 9)<|aS 7 fun apT aqh aiL=>gL (sz:=2) (ps:=[]) (qs:=K.rules) (enc:=fW) (w:= .slice ju K.rules.length jq) [1] [] [] (aO (b:=b64) (T:=84)) (fun s he _=>⟨ju,Fg,Ff,jq,rfl,Ey,fun i p hp=>(Ex i p hp).ext he⟩) (fun p _=>ah rfl) (by simp<;>omega) (fun v67 L67 mr=>?_)
 rw[List.nil_append] at mr
 obtain⟨Uv,Up,V3⟩:=mr.form
 subst V3
 refine fR aiL [[2]]<|aS 9 (fun apS aqg aiK=>?_)
 obtain⟨amd,amb,ail⟩:=hI.2.1.form
 subst ail
 obtain⟨Ux,Ur,Ik⟩:=hG.2.1.form
 subst Ik
 refine jd 1 [9]<|gA aiK<|zD 1<|aS 11 fun apR aqf aiJ=>jd 1 [9]<|gA aiJ<|zD 1<|aS 13 fun aAp aBh axQ=>jd 1 [9]<|gA axQ<|zD 1<|bF OQ ⟨_,_,_,_,VL,Xc,(.slice Uv (K.rules).length Up),L67⟩ ⟨HY,HX,mr⟩ Nat.zero_lt_one [9,0,1,2,3,4,5,6,7,8] (Sub.refl _)
theorem B5:∀l:List Int,IV l l=true
 | []=>rfl
 |x::l=>by simp[IV,B5 l]
noncomputable def AK(K:aE):fy:=ax (cW K (aQ K) (cw K.gone K.new K.ab) (dq K))
theorem akH(h:K.facts.length≤3)(hi:i <4):(cN (cu K ⟨i,j,true⟩):Int)=(AK K).c i j:=by
 have e:cN (cu K ⟨i,j,true⟩)=(cW (cu K ⟨i,j,true⟩) (aQ (cu K ⟨i,j,true⟩)) (cw K.gone K.new K.ab) (dq K)).length:=rfl
 rw[e,Ju rfl h ⟨by show (0:Int)≤i;omega,by show (i:Int) <4;omega⟩]
 show ((List.filter (fun x=>decide (pI x ((i:Nat):Int).toNat=(j:Int)+1)) _).length:Int)=_
 rw[Int.toNat_natCast]
 rfl
theorem apC(K:aE)(i j:Nat):0≤(AK K).c i j∧(AK K).c i j≤cN K:=D5 _ i j
def nH(n m:Int):Int:=if n=m then 1 else if n=0 then 2 else 3
theorem aDN{m:Int}:dv zT 53 [zI n,zI m] ro (zI (nH n m)):=by
 refine zE<|zD 16<|zJ 6 (n=m) (fun h1=>?_) fun h1=>?_
 ·
  refine zD 6<|zX (zI 1) ⟨by rw[nH,if_pos (by omega)],rfl⟩
 refine zD 6<|zJ 9 (n=0) (fun h2=>?_) fun h2=>?_
 ·
  refine zD 6<|zX (zI 2) ⟨by rw[nH,if_neg (by omega),if_pos (by omega)],rfl⟩
 refine zD 7<|zX (zI 3) ⟨by rw[nH,if_neg (by omega),if_neg (by omega)],rfl⟩
theorem ani{m:fy}{a:Nat}(h:a <4):Hn true (AD m) ((a:Int).toNat*4) 4=some (.agg ⟨[zI (m.c a 0),zI (m.c a 1),zI (m.c a 2),zI (m.c a 3)]⟩):=by
 rcases BE h with rfl|rfl|rfl|rfl<;>rfl
theorem atT{m:fy}{a:Nat}(h:b <4):Hn false [zI (m.c a 0),zI (m.c a 1),zI (m.c a 2),zI (m.c a 3)] ((b:Int).toNat*1) 1=some (zI (m.c a b)):=by
 rcases BE h with rfl|rfl|rfl|rfl<;>rfl
theorem avb{rows:List bD}{a:Nat}(hK:eR ro l K)(hV:eH K)(hB:iz ro l K rows)(Cw:a <K.before.length)(KC:b <K.after.length):dQ zT 52 [.agg ⟨l⟩,zI (a:Int),zI (b:Int)] ro [] (fun r Y=>∃f,r= .tuple ⟨[pV f,zI 0]⟩∧(∀aC,Sub ro aC→Knows aC Y→ov aC f K rows)):=by
 obtain⟨v0,v1,v3,v4,v5,v6,v7,vb,fa,fc,hv,rfl,_,_,_,_,_,hb,ha,_⟩:=id hK
 obtain⟨jD,Hf,Hd,jv,rfl,He,Gi,Gh⟩:=hb
 obtain⟨iW,Fs,Fj,iQ,rfl,Fo,EA,Ez⟩:=ha
 have BO:=hV.before.1
 have EM:=hV.after.1
 refine zE<|zD 2<|jn fun b3=>jd 6 [0]<|jc (vs:=[.agg ⟨[v0,v1,.slice fa 0 fc,v3,v4,v5,.slice jD K.before.length jv,.slice iW K.after.length iQ,zI K.gone,zI K.new,zI K.ab,vb]⟩]) [] (hB _ (Sub.refl _)) ?_
 rintro _ Y12 ⟨f12,rfl,Wm⟩
 refine jd 22 [1]<|ja ((K.before.length:Int)-1) (by omega)<|jp (vs:=[zI (a:Int),zI 0,zI ((K.before.length:Int)-1)]) [] [] (fun aF hs hZ=>dW)<|zD 3<|js 19 (!(gT (a:Int) 0 ((K.before.length:Int)-1))) (fun h1=>?_) (fun h1=>?_)
 ·
  try simp only[zB] at h1
  exfalso;simp only[gT,Bool.and_eq_false_iff,decide_eq_false_iff_not] at h1;omega
 try simp only[zB] at h1
 refine jd 6 [1]<|ja ((K.after.length:Int)-1) (by omega)<|jp (vs:=[zI (b:Int),zI 0,zI ((K.after.length:Int)-1)]) [] [] (fun aF hs hZ=>dW)<|zD 3<|js 19 (!(gT (b:Int) 0 ((K.after.length:Int)-1))) (fun h2=>?_) (fun h2=>?_)
 ·
  try simp only[zB] at h2
  exfalso;simp only[gT,Bool.and_eq_false_iff,decide_eq_false_iff_not] at h2;omega
 try simp only[zB] at h2
 refine zD 9<|zR (.tuple ⟨[zP f12,zI 0]⟩) [] [0] Y12 ⟨f12,rfl,Wm⟩
theorem agt{rows:List bD}{a:Nat}(hK:eR ro l K)(hV:eH K)(hR:rows.length≤2)(hB:iz ro l K rows)(hCt:q6)(Cw:a <K.before.length)(KC:b <K.after.length):CH zT 16 [.agg ⟨l⟩,zI (a:Int),zI (b:Int)] ro [] (fun r Y=>∃zs v e,zs.Perm (cW K (aQ K) (cw K.gone K.new K.ab) rows)∧Y=[]∧r= .tuple ⟨[zI v,zI e]⟩∧((zs=[]∧e=9∧v=0)∨(zs≠[]∧e=0∧v=nH ((ax zs).c a b) ((zs.length:Nat):Int)))):=by
 obtain⟨v0,v1,v3,v4,v5,v6,v7,vb,fa,fc,hv,rfl,_⟩:=id hK
 have BO:=hV.before.1
 have EM:=hV.after.1
 refine Ad ar [] [] aU fun fr=>zD 2<|jn fun b3=>jd 8 [0]<|jc (vs:=[.agg ⟨[v0,v1,.slice fa 0 fc,v3,v4,v5,v6,v7,zI K.gone,zI K.new,zI K.ab,vb]⟩,zI (a:Int),zI (b:Int)]) [] (avb hK hV hB Cw KC) ?_
 rintro _ Y15 ⟨f15,rfl,aTg⟩
 refine zD 5<|jf [0] Y15 (fun yt bL iJ=>?_)
 have yE:=aTg _ bL iJ
 refine zD 12<|JF (vs:=[zP f15]) [] (fun _ _ h=>h) (Of yE hV hR) ?_
 rintro _ Y23 ⟨zs,v23,e23,rfl,hz,aQu,he⟩
 have Ku:∀x∈zs,(-4≤x.gone∧x.gone≤4)∧(-4≤x.new∧x.new≤4)∧(0≤x.ab∧x.ab≤4):=fun x hx=>by obtain⟨i,r,p,_,_,rfl,_⟩:=eP (hz.mem_iff.1 hx);exact lg hV r i p
 have VD:zs.length≤1250:=by rw[hz.length_eq];exact lX hV _ _ hR
 have hpr:∀x∈zs,∀q,0≤pI x q∧pI x q≤4:=fun x hx=>by obtain⟨i,r,p,_,hp,rfl,_⟩:=eP (hz.mem_iff.1 hx);exact xQ ((gp hV _).2 p hp)
 refine zD 5<|jf [0] Y23 (fun ro6 kV Zm=>?_)
 have Wc:=aQu.jC Zm
 obtain⟨mZ,C8,C6,mg,rfl,C7,zr,zq⟩:=Wc
 refine zD 7<|js 27 (!decide (e23=0)) (fun h7=>?_) (fun h7=>?_)
 ·
  replace h7:=of_decide_eq_false (by simpa using h7)
  have pg:zs=[]∧e23=9:=by rcases he with h| ⟨_,h⟩;exact h;omega
  refine zD 8<|Fx qC.a.a (.tuple ⟨[zI 0,zI e23]⟩) [1] [] (bL.trans kV) ⟨zs,_,_,hz,rfl,rfl,.inl ⟨pg.1,pg.2,rfl⟩⟩
 replace h7:=of_decide_eq_true (by simpa using h7)
 have pg:zs≠[]∧e23=0:=by rcases he with ⟨_,h⟩|h;omega;exact h
 refine zD 5<|jc (vs:=[.slice mZ zs.length mg]) [] (hCt (show a8 _ _ _ _ _ from ⟨mZ,C8,C6,mg,rfl,C7,zr,zq⟩) (by omega) hpr) ?_
 rintro _ _ ⟨rfl,rfl⟩
 refine jg 0 []<|zD 1<|jai (l:=AD (ax zs)) (a:Int) 4 4 true (by omega) (ani (m:=ax zs) (by omega))<|zD 1<|jai (b:Int) 4 1 false (by omega) (atT (m:=ax zs) (a:=a) (by omega))<|zD 2<|jp (vs:=[zI ((ax zs).c a b),zI (zs.length:Int)]) [] [] (fun aF hs hZ=>aDN)<|zD 4<|Fx qC.a.a (.tuple ⟨[zI (nH ((ax zs).c a b) (zs.length:Int)),zI 0]⟩) [1] [] (bL.trans kV) ⟨zs,_,_,hz,rfl,rfl,.inr ⟨pg.1,rfl,rfl⟩⟩
def Fa:=(ig Tryz.typeInfo9 Tryz.underlying9 rfl rfl rfl rfl rfl rfl:TF zT 9 _ 1 16 _ false)
def aax:=(ig Tryz.typeInfo4 Tryz.underlying4 rfl rfl rfl rfl rfl rfl:TF zT 4 _ 1 1 _ false)
theorem kp{l:List α}{k:Nat}{x y:α}(h:l[k]?=some x) (h2:l[k]?=some y):x=y:=by rw[h] at h2;exact Option.some.inj h2
theorem aHs(a0:Int)(a1:Int)(a2:Bool)(b0:Int)(b1:Int)(b2:Bool):EqV zT 54 (.agg ⟨[zI a0,zI a1,.bool a2]⟩) (.agg ⟨[zI b0,zI b1,.bool b2]⟩) (a0==b0&&(a1==b1&&(a2==b2&&(true)))):=
 uI (jO (dep:=9999) (ig Tryz.typeInfo54 Tryz.underlying54 rfl rfl rfl rfl rfl rfl) Tryz.stoodInHeld54 (.cons (by decide) (cg fw rfl) (cg fw rfl) (gk fw _ _) (.cons (by decide) (cg fw rfl) (cg fw rfl) (gk fw _ _) (.cons (by decide) (cg aax rfl) (cg aax rfl) (Tj aax _ _) .nil))))
theorem aOm:jR zT 54:=Tryz.eqGuardType54
theorem aHu(a0:ByteArray)(a1:ByteArray)(b0:ByteArray)(b1:ByteArray):EqV zT 84 (.agg ⟨[.string a0,.string a1]⟩) (.agg ⟨[.string b0,.string b1]⟩) (a0==b0&&(a1==b1&&(true))):=
 uI (jO (dep:=9999) (ig Tryz.typeInfo84 Tryz.underlying84 rfl rfl rfl rfl rfl rfl) Tryz.stoodInHeld84 (.cons (by decide) (cg Fa rfl) (cg Fa rfl) (Gy Fa _ _) (.cons (by decide) (cg Fa rfl) (cg Fa rfl) (Gy Fa _ _) .nil)))
theorem aOo:jR zT 84:=Tryz.eqGuardType84
theorem aHt(a0:ByteArray)(a1:Int)(a2:Int)(a3:Int)(a4:Bool)(b0:ByteArray)(b1:Int)(b2:Int)(b3:Int)(b4:Bool):EqV zT 44 (.agg ⟨[.string a0,zI a1,zI a2,zI a3,.bool a4]⟩) (.agg ⟨[.string b0,zI b1,zI b2,zI b3,.bool b4]⟩) (a0==b0&&(a1==b1&&(a2==b2&&(a3==b3&&(a4==b4&&(true)))))):=
 uI (jO (dep:=9999) (ig Tryz.typeInfo44 Tryz.underlying44 rfl rfl rfl rfl rfl rfl) Tryz.stoodInHeld44 (.cons (by decide) (cg Fa rfl) (cg Fa rfl) (Gy Fa _ _) (.cons (by decide) (cg fw rfl) (cg fw rfl) (gk fw _ _) (.cons (by decide) (cg fw rfl) (cg fw rfl) (gk fw _ _) (.cons (by decide) (cg fw rfl) (cg fw rfl) (gk fw _ _) (.cons (by decide) (cg aax rfl) (cg aax rfl) (Tj aax _ _) .nil))))))
theorem aOn:jR zT 44:=Tryz.eqGuardType44
theorem aHv(a0:Int)(a1:Int)(a2:Int)(a3:Int)(a4:Int)(a5:Int)(a6:Int)(b0:Int)(b1:Int)(b2:Int)(b3:Int)(b4:Int)(b5:Int)(b6:Int):EqV zT 77 (.agg ⟨[zI a0,zI a1,zI a2,zI a3,zI a4,zI a5,zI a6]⟩) (.agg ⟨[zI b0,zI b1,zI b2,zI b3,zI b4,zI b5,zI b6]⟩) (a0==b0&&(a1==b1&&(a2==b2&&((a3==b3&&(a4==b4&&true))&&((a5==b5&&(a6==b6&&true))&&(true)))))):=
 uI (jO (dep:=9999) (ig Tryz.typeInfo77 Tryz.underlying77 rfl rfl rfl rfl rfl rfl) Tryz.stoodInHeld77 (.cons (by decide) (cg fw rfl) (cg fw rfl) (gk fw _ _) (.cons (by decide) (cg fw rfl) (cg fw rfl) (gk fw _ _) (.cons (by decide) (cg fw rfl) (cg fw rfl) (gk fw _ _) (.cons (by decide) (ud (ig Tryz.typeInfo73 Tryz.underlying73 rfl rfl rfl rfl rfl rfl) rfl) (ud (ig Tryz.typeInfo73 Tryz.underlying73 rfl rfl rfl rfl rfl rfl) rfl) (Ti _ _ _ _ _) (.cons (by decide) (ud (ig Tryz.typeInfo73 Tryz.underlying73 rfl rfl rfl rfl rfl rfl) rfl) (ud (ig Tryz.typeInfo73 Tryz.underlying73 rfl rfl rfl rfl rfl rfl) rfl) (Ti _ _ _ _ _) .nil))))))
theorem aOp:jR zT 77:=Tryz.eqGuardType77
theorem ayr(a0:ByteArray)(a1:Int)(b0:ByteArray)(b1:Int):EqV zT 140 (.agg ⟨[.string a0,zI a1]⟩) (.agg ⟨[.string b0,zI b1]⟩) (a0==b0&&(a1==b1&&(true))):=
 uI (jO (dep:=9999) (ig Tryz.typeInfo140 Tryz.underlying140 rfl rfl rfl rfl rfl rfl) Tryz.stoodInHeld140 (.cons (by decide) (cg Fa rfl) (cg Fa rfl) (Gy Fa _ _) (.cons (by decide) (cg fw rfl) (cg fw rfl) (gk fw _ _) .nil)))
theorem aDq:jR zT 140:=Tryz.eqGuardType140
theorem UW{v:Value}{xs:List bK}(hl:a8 ro v 3 kJ xs)(hn:xs.length≤1000):dQ zT 56 [v] ro [] (fun r Y=>∃L,aw r 3 54 kJ xs L∧Y=L):=by
 obtain⟨dB,mP,mO,dz,rfl,qd,gY,jV⟩:=hl
 refine zE<|zD 8<|jsn 38 (a:=dB) (l:=xs.length) (c:=dz)<|zD 1<|js 4 (dB.isNone) (fun h1=>?_) (fun h1=>?_)
 ·
  refine zD 6<|zX (zS) ⟨[],by rw[eN gY (by assumption)];exact aw.nil _ _ _,rfl⟩
 refine zD 4<|jn fun b5=>zD 1<|gL (sz:=3) (ps:=[]) (qs:=xs) (enc:=kJ) (w:= .slice dB xs.length dz) [0] [] [] (aO (b:=b5) (T:=54)) (fun s he _=>⟨dB,mP,mO,dz,rfl,gY,fun i p hp=>(jV i p hp).ext he⟩) (fun p _=>ah rfl) (by simp<;>omega) (fun v7 L7 cm=>?_)
 rw[List.nil_append] at cm
 obtain⟨yp,yo,wO⟩:=cm.form
 subst wO
 refine zD 3<|zR ((.slice yp (xs).length yo)) [] [0] L7 ⟨_,cm,rfl⟩
theorem amt{v:Value}{xs:List cR}(hl:a8 ro v 2 fW xs)(hn:xs.length≤1000):dQ zT 102 [v] ro [] (fun r Y=>∃L,aw r 2 84 fW xs L∧Y=L):=by
 obtain⟨dB,mP,mO,dz,rfl,qd,gY,jV⟩:=hl
 refine zE<|zD 8<|jsn 36 (a:=dB) (l:=xs.length) (c:=dz)<|zD 1<|js 4 (dB.isNone) (fun h1=>?_) (fun h1=>?_)
 ·
  refine zD 6<|zX (zS) ⟨[],by rw[eN gY (by assumption)];exact aw.nil _ _ _,rfl⟩
 refine zD 4<|jn fun b5=>zD 1<|gL (sz:=2) (ps:=[]) (qs:=xs) (enc:=fW) (w:= .slice dB xs.length dz) [0] [] [] (aO (b:=b5) (T:=84)) (fun s he _=>⟨dB,mP,mO,dz,rfl,gY,fun i p hp=>(jV i p hp).ext he⟩) (fun p _=>ah rfl) (by simp<;>omega) (fun v7 L7 cm=>?_)
 rw[List.nil_append] at cm
 obtain⟨yp,yo,wO⟩:=cm.form
 subst wO
 refine zD 3<|zR ((.slice yp (xs).length yo)) [] [0] L7 ⟨_,cm,rfl⟩
theorem aeH{v:Value}{xs:List aB}(hl:a8 ro v 5 di xs)(hn:xs.length≤1000):dQ zT 103 [v] ro [] (fun r Y=>∃L,aw r 5 44 di xs L∧Y=L):=by
 obtain⟨dB,mP,mO,dz,rfl,qd,gY,jV⟩:=hl
 refine zE<|zD 8<|jsn 37 (a:=dB) (l:=xs.length) (c:=dz)<|zD 1<|js 4 (dB.isNone) (fun h1=>?_) (fun h1=>?_)
 ·
  refine zD 6<|zX (zS) ⟨[],by rw[eN gY (by assumption)];exact aw.nil _ _ _,rfl⟩
 refine zD 4<|jn fun b5=>zD 1<|gL (sz:=5) (ps:=[]) (qs:=xs) (enc:=di) (w:= .slice dB xs.length dz) [0] [] [] (aO (b:=b5) (T:=44)) (fun s he _=>⟨dB,mP,mO,dz,rfl,gY,fun i p hp=>(jV i p hp).ext he⟩) (fun p _=>ah rfl) (by simp<;>omega) (fun v7 L7 cm=>?_)
 rw[List.nil_append] at cm
 obtain⟨yp,yo,wO⟩:=cm.form
 subst wO
 refine zD 3<|zR ((.slice yp (xs).length yo)) [] [0] L7 ⟨_,cm,rfl⟩
theorem atJ{v:Value}{xs:List ai}(hl:a8 ro v 2 cA xs)(hn:xs.length≤1000):dQ zT 97 [v] ro [] (fun r Y=>∃L,aw r 2 73 cA xs L∧Y=L):=by
 obtain⟨dB,mP,mO,dz,rfl,qd,gY,jV⟩:=hl
 refine zE<|zD 8<|jsn 74 (a:=dB) (l:=xs.length) (c:=dz)<|zD 1<|js 4 (dB.isNone) (fun h1=>?_) (fun h1=>?_)
 ·
  refine zD 6<|zX (zS) ⟨[],by rw[eN gY (by assumption)];exact aw.nil _ _ _,rfl⟩
 refine zD 4<|jn fun b5=>zD 1<|gL (sz:=2) (ps:=[]) (qs:=xs) (enc:=cA) (w:= .slice dB xs.length dz) [0] [] [] (aO (b:=b5) (T:=73)) (fun s he _=>⟨dB,mP,mO,dz,rfl,gY,fun i p hp=>(jV i p hp).ext he⟩) (fun p _=>ah rfl) (by simp<;>omega) (fun v7 L7 cm=>?_)
 rw[List.nil_append] at cm
 obtain⟨yp,yo,wO⟩:=cm.form
 subst wO
 refine zD 3<|zR ((.slice yp (xs).length yo)) [] [0] L7 ⟨_,cm,rfl⟩
theorem atO{v:Value}{xs:List aL}(hl:a8 ro v 7 iu xs)(hn:xs.length≤1000):dQ zT 98 [v] ro [] (fun r Y=>∃L,aw r 7 77 iu xs L∧Y=L):=by
 obtain⟨dB,mP,mO,dz,rfl,qd,gY,jV⟩:=hl
 refine zE<|zD 8<|jsn 79 (a:=dB) (l:=xs.length) (c:=dz)<|zD 1<|js 4 (dB.isNone) (fun h1=>?_) (fun h1=>?_)
 ·
  refine zD 6<|zX (zS) ⟨[],by rw[eN gY (by assumption)];exact aw.nil _ _ _,rfl⟩
 refine zD 4<|jn fun b5=>zD 1<|gL (sz:=7) (ps:=[]) (qs:=xs) (enc:=iu) (w:= .slice dB xs.length dz) [0] [] [] (aO (b:=b5) (T:=77)) (fun s he _=>⟨dB,mP,mO,dz,rfl,gY,fun i p hp=>(jV i p hp).ext he⟩) (fun p _=>ah rfl) (by simp<;>omega) (fun v7 L7 cm=>?_)
 rw[List.nil_append] at cm
 obtain⟨yp,yo,wO⟩:=cm.form
 subst wO
 refine zD 3<|zR ((.slice yp (xs).length yo)) [] [0] L7 ⟨_,cm,rfl⟩
theorem atN{v:Value}{xs:List bO}(hl:a8 ro v 2 lJ xs)(hn:xs.length≤1000):dQ zT 99 [v] ro [] (fun r Y=>∃L,aw r 2 140 lJ xs L∧Y=L):=by
 obtain⟨dB,mP,mO,dz,rfl,qd,gY,jV⟩:=hl
 refine zE<|zD 8<|jsn 32 (a:=dB) (l:=xs.length) (c:=dz)<|zD 1<|js 4 (dB.isNone) (fun h1=>?_) (fun h1=>?_)
 ·
  refine zD 6<|zX (zS) ⟨[],by rw[eN gY (by assumption)];exact aw.nil _ _ _,rfl⟩
 refine zD 4<|jn fun b5=>zD 1<|gL (sz:=2) (ps:=[]) (qs:=xs) (enc:=lJ) (w:= .slice dB xs.length dz) [0] [] [] (aO (b:=b5) (T:=140)) (fun s he _=>⟨dB,mP,mO,dz,rfl,gY,fun i p hp=>(jV i p hp).ext he⟩) (fun p _=>ah rfl) (by simp<;>omega) (fun v7 L7 cm=>?_)
 rw[List.nil_append] at cm
 obtain⟨yp,yo,wO⟩:=cm.form
 subst wO
 refine zD 3<|zR ((.slice yp (xs).length yo)) [] [0] L7 ⟨_,cm,rfl⟩
theorem atM{v:Value}{xs:List bU}(hl:a8 ro v 6 jF xs)(hn:xs.length≤1000):dQ zT 96 [v] ro [] (fun r Y=>∃L,aw r 6 179 jF xs L∧Y=L):=by
 obtain⟨dB,mP,mO,dz,rfl,qd,gY,jV⟩:=hl
 refine zE<|zD 8<|jsn 29 (a:=dB) (l:=xs.length) (c:=dz)<|zD 1<|js 4 (dB.isNone) (fun h1=>?_) (fun h1=>?_)
 ·
  refine zD 6<|zX (zS) ⟨[],by rw[eN gY (by assumption)];exact aw.nil _ _ _,rfl⟩
 refine zD 4<|jn fun b5=>zD 1<|gL (sz:=6) (ps:=[]) (qs:=xs) (enc:=jF) (w:= .slice dB xs.length dz) [0] [] [] (aO (b:=b5) (T:=179)) (fun s he _=>⟨dB,mP,mO,dz,rfl,gY,fun i p hp=>(jV i p hp).ext he⟩) (fun p _=>ah rfl) (by simp<;>omega) (fun v7 L7 cm=>?_)
 rw[List.nil_append] at cm
 obtain⟨yp,yo,wO⟩:=cm.form
 subst wO
 refine zD 3<|zR ((.slice yp (xs).length yo)) [] [0] L7 ⟨_,cm,rfl⟩
theorem atK{v:Value}{xs:List Int}(hl:a8 ro v 1 cD xs)(hn:xs.length≤1000):dQ zT 101 [v] ro [] (fun r Y=>∃L,aw r 1 3 cD xs L∧Y=L):=by
 obtain⟨dB,mP,mO,dz,rfl,qd,gY,jV⟩:=hl
 refine zE<|zD 8<|jsn 22 (a:=dB) (l:=xs.length) (c:=dz)<|zD 1<|js 4 (dB.isNone) (fun h1=>?_) (fun h1=>?_)
 ·
  refine zD 6<|zX (zS) ⟨[],by rw[eN gY (by assumption)];exact aw.nil _ _ _,rfl⟩
 refine zD 4<|jn fun b5=>zD 1<|gL (sz:=1) (ps:=[]) (qs:=xs) (enc:=cD) (w:= .slice dB xs.length dz) [0] [] [] (aO (b:=b5) (T:=3)) (fun s he _=>⟨dB,mP,mO,dz,rfl,gY,fun i p hp=>(jV i p hp).ext he⟩) (fun p _=>ah rfl) (by simp<;>omega) (fun v7 L7 cm=>?_)
 rw[List.nil_append] at cm
 obtain⟨yp,yo,wO⟩:=cm.form
 subst wO
 refine zD 3<|zR ((.slice yp (xs).length yo)) [] [0] L7 ⟨_,cm,rfl⟩
theorem atL{v:Value}{xs:List aY}{hd:List cy}(hl:a8 ro v 4 jZ xs)(hn:xs.length≤1000)(dr:dc (oG ro) xs hd):dQ zT 100 [v] ro [] (fun r Y=>∃L,aw r 4 143 jZ xs L∧Y=L):=by
 obtain⟨dB,mP,mO,dz,rfl,qd,gY,jV⟩:=hl
 refine zE<|zD 8<|jsn 33 (a:=dB) (l:=xs.length) (c:=dz)<|zD 1<|js 4 (dB.isNone) (fun h1=>?_) (fun h1=>?_)
 ·
  refine zD 6<|zX (zS) ⟨[],by rw[eN gY (by assumption)];exact aw.nil _ _ _,rfl⟩
 refine zD 4<|jn fun b5=>zD 1<|gL (sz:=4) (ps:=[]) (qs:=xs) (enc:=jZ) (w:= .slice dB xs.length dz) [0] [] [] (aO (b:=b5) (T:=143)) (fun s he _=>⟨dB,mP,mO,dz,rfl,gY,fun i p hp=>(jV i p hp).ext he⟩) (eX dr) (by simp only[List.length_nil,Nat.zero_add];omega) (fun v7 L7 cm=>?_)
 rw[List.nil_append] at cm
 obtain⟨yp,yo,wO⟩:=cm.form
 subst wO
 refine zD 3<|zR ((.slice yp (xs).length yo)) [] [0] L7 ⟨_,cm,rfl⟩
set_option maxHeartbeats 2000000 in
theorem YS {vS vT vc vh vr va vz:Value} {fa:Option Addr} {oA:Nat→Option Obj} (h0:eR oA [vS,vT,.slice fa 0 fc,vc,vh,vr,vb,va,zI K.gone,zI K.new,zI K.ab,vz] K) (MA:Sub oA ro) (hf:a8 ro vf 3 kJ fs) (hO:jm K) (hfs:fs.length≤4):dQ zT 58 [.agg ⟨[vS,vT,.slice fa 0 fc,vc,vh,vr,vb,va,zI K.gone,zI K.new,zI K.ab,vf]⟩] ro [] (fun r Y=>∃(l':List Value) (Z:Cells),r= .agg ⟨l'⟩∧Jz K l'∧(∀aC,Sub oA aC→Knows aC Z→eR aC l' {K with facts:=fs})∧Y=Z):=by
 obtain⟨wS,wT,wc,wh,wr,wb,wa,wf,fa_,fc_,hv,he,xU,hT0,aGp,mH,u2,uB,ha0,_⟩:=h0
 simp only[List.cons.injEq,Value.slice.injEq] at he
 obtain⟨rfl,rfl,⟨rfl,_,rfl⟩,rfl,rfl,rfl,rfl,rfl,_,_,_,_,_⟩:=he
 have hS:=xU.up MA
 have hT:=hT0.up MA
 have nF:=aGp.up MA
 have hr:=u2.up MA
 have hb:=uB.up MA
 have ha:=ha0.up MA
 obtain⟨fD,hs,ei⟩:=id hS
 obtain⟨fK,ht,dY⟩:=id hT
 obtain⟨hc,hh,rJ⟩:=id nF
 obtain⟨kg,PO,PM,jo,rfl,PN,Gg,Gf⟩:=hs
 obtain⟨eB,yM,yK,dH,rfl,yL,qt,qp⟩:=ht
 obtain⟨dS,yw,yu,dP,rfl,AR,vK,vJ⟩:=hc
 obtain⟨dC,s9,s8,de,rfl,uX,pJ,pH⟩:=hh
 obtain⟨ju,Fg,Ff,jq,rfl,Kb,Ey,Ex⟩:=hr
 obtain⟨jD,Hf,Hd,jv,rfl,He,Gi,Gh⟩:=hb
 obtain⟨iW,Fs,Fj,iQ,rfl,Fo,EA,Ez⟩:=ha
 obtain⟨fp,td,tb,eS,rfl,wu,pM,pK⟩:=hf
 have yR:=hO.rules
 have pF:=hO.before.1
 have JL:=hO.after.1
 have JK:=hfs
 have MC:=hO.ways.1
 have Gs:=ei.len
 have DE:=dY.len
 have Ua:=hO.m8.two
 have Zk:=hO.cX.nh
 have Hb:∀(i:Nat) (p:bU),([]:List bU)[i]?=some p→cb ⟨ro,[]⟩ 0 (0+i*6) 6 (jF p):=fun _ _ h=>lR h
 have aol:=hO.cX.nc.2
 have aok:=rJ.len
 refine zE<|zD 2<|jn fun b1=>jn fun b2=>jd 4 [1]<|jn fun b3=>jd 7 [0,2]<|jc (vs:=[.slice fa 0 fc]) [] (atM (show a8 _ _ _ _ _ from ⟨fa,0,0,fc,rfl,(Nat.zero_le _),(fun _ h=>absurd h (Nat.not_lt_zero _)),Hb⟩) (by simp)) ?_
 rintro v14 L14 ⟨_,Oz,rfl⟩
 obtain⟨rh,qj,rj⟩:=Oz.form
 subst rj
 refine jd 15 [1,3]<|nB<|nB<|dL [1,1,1,0,1,0,0] [] (fun(zz:Nat×Value×Cells×(List Value)×Cells)=>[(1,zP b1),(2,zP b2),(3,zP b3),(20,.slice kg fD.length jo),(21,zI (fD.length:Int)),(22,zI (zz.1:Int))]) (fun zz=>[.b b3 (.cells ⟨[zz.2.1,zS,(.slice rh (([]:List bU)).length qj),.slice dS K.cs.length dP,.slice dC hv.length de,.slice ju K.rules.length jq,.slice jD K.before.length jv,.slice iW K.after.length iQ,zI K.gone,zI K.new,zI K.ab,.slice fp fs.length eS]⟩ 40 (0,0)),.l zz.2.2.1,.l zz.2.2.2.2,.l L14,.b b2 (.cells ⟨zO⟩ 40 (0,0)),.b b1 (.cells ⟨[.slice kg fD.length jo,.slice eB fK.length dH,.slice fa 0 fc,.slice dS K.cs.length dP,.slice dC hv.length de,.slice ju K.rules.length jq,.slice jD K.before.length jv,.slice iW K.after.length iQ,zI K.gone,zI K.new,zI K.ab,.slice fp fs.length eS]⟩ 40 (0,0))]) (fun zz=>(zz.1≤fD.length∧zz.2.2.2.1.length=zz.1)∧aw zz.2.1 1 74 fB zz.2.2.2.1 zz.2.2.1∧∀aC,Knows aC zz.2.2.2.2→dc (fun w l=>a8 aC w 2 cA l) zz.2.2.2.1 (K.str.take zz.1)) (fun zz=>fD.length-zz.1) (⟨0,zS,[],[],[]⟩) ⟨⟨by omega,rfl⟩,aw.nil _ _ _,fun _ _=> .nil⟩ [3,1,0,2,4,5] ?_
 rintro⟨i,v0,L0,ps,Z⟩ hI K1 bE rest
 dsimp only at hI
 refine zD 5<|zJ 23 ((i:Int) <(fD.length:Int)) (fun h1=>?_) fun h1=>?_
 ·
  refine zD 6 ?_
  obtain⟨x24,avT⟩:=zG fD i
  refine fL jo 1 Gg avT ?_
  obtain⟨l25,aFu,h25⟩:=ei.get avT
  obtain bc9:=hO.m8.len _ (zL aFu)
  obtain⟨aCK,aNw,aNs,aCJ,rfl,aNu,aNv,aNt⟩:=h25
  refine jl 0 (Gf _ _ avT)<|jd 8 [0]<|aS 5 fun A1 Bn Av=>jc (vs:=[.slice aCK l25.length aCJ]) [] (atJ (show a8 _ _ _ _ _ from ⟨aCK,aNw,aNs,aCJ,rfl,aNu,aNv,aNt⟩) (by omega)) ?_
  rintro v31 L31 ⟨_,aob,rfl⟩
  obtain⟨adR,adK,aRD⟩:=aob.form
  subst aRD
  refine ep Av (zN 1 6)<|aS 6 fun rZ r8 qM=>jn fun b32=>ep qM (zN 1 7)<|aS 7 fun sL sR qL=>gL (sz:=1) (ps:=ps) (qs:=[((.slice adR (l25).length adK):Value)]) (enc:=fB) (w:= .slice (some ⟨b32,0,none⟩) 1 1) [3] [0] [(b32,.cells ⟨([((.slice adR (l25).length adK):Value)].map fB).flatten⟩ 74 (0,0))] (hI.2.1) (fun s _ hZ=>bN [((.slice adR (l25).length adK):Value)] (hZ _ (.head _)) (by intro p hp;rfl)) (by intro p hp;rw[List.mem_singleton] at hp;subst hp;exact ah rfl) (by simp<;>omega) (fun v33 L33 H8=>?_)
  obtain⟨ata,asY,axl⟩:=H8.form
  subst axl
  refine fR qL []<|zD 3<|aS 11 fun A0 Bm Au=>jd 1 [3]<|fR Au []<|zD 2<|ja ((i:Int)+1) (by omega)<|zD 2<|HM bE (⟨i+1,(.slice ata ((ps++[((.slice adR (l25).length adK):Value)])).length asY),L33,(ps++[((.slice adR (l25).length adK):Value)]),L31++Z⟩) ⟨⟨by dsimp only;omega,by simp only[zM];omega⟩,H8,fun aC hk=>mL (hI.2.2 aC hk.right) aFu (aob.jC hk.left)⟩ (by omega) [[3],[0],[2,4],[5],[6],[7]] (Sub.refl _)
 refine jd 12 [5]<|nB<|nB<|dL [1,1,1,1,0,1,0,0] [] (fun(zz:Nat×Value×Cells×(List Value)×Cells)=>[(1,zP b1),(2,zP b2),(3,zP b3),(40,.slice eB fK.length dH),(41,zI (fK.length:Int)),(42,zI (zz.1:Int))]) (fun zz=>[.b b3 (.cells ⟨[v0,zz.2.1,(.slice rh (([]:List bU)).length qj),.slice dS K.cs.length dP,.slice dC hv.length de,.slice ju K.rules.length jq,.slice jD K.before.length jv,.slice iW K.after.length iQ,zI K.gone,zI K.new,zI K.ab,.slice fp fs.length eS]⟩ 40 (0,0)),.l zz.2.2.1,.l zz.2.2.2.2,.l L0,.l Z,.l L14,.b b2 (.cells ⟨zO⟩ 40 (0,0)),.b b1 (.cells ⟨[.slice kg fD.length jo,.slice eB fK.length dH,.slice fa 0 fc,.slice dS K.cs.length dP,.slice dC hv.length de,.slice ju K.rules.length jq,.slice jD K.before.length jv,.slice iW K.after.length iQ,zI K.gone,zI K.new,zI K.ab,.slice fp fs.length eS]⟩ 40 (0,0))]) (fun zz=>(zz.1≤fK.length∧zz.2.2.2.1.length=zz.1)∧aw zz.2.1 1 81 fB zz.2.2.2.1 zz.2.2.1∧∀aC,Knows aC zz.2.2.2.2→dc (fun w l=>a8 aC w 7 iu l) zz.2.2.2.1 (K.ways.take zz.1)) (fun zz=>fK.length-zz.1) (⟨0,zS,[],[],[]⟩) ⟨⟨by omega,rfl⟩,aw.nil _ _ _,fun _ _=> .nil⟩ [2,1,0,3,4,5,6,7] ?_
 rintro⟨j,v1,L1,qs,Z1⟩ hG K6 hK6 rest
 dsimp only at hG
 refine zD 5<|zJ 43 ((j:Int) <(fK.length:Int)) (fun h6=>?_) fun h6=>?_
 ·
  refine zD 6 ?_
  obtain⟨Xs,BJ⟩:=zG fK j
  refine fL dH 1 qt BJ ?_
  obtain⟨l45,aFr,h45⟩:=dY.get BJ
  obtain bc8:=(hO.ways.2 _ (zL aFr)).1.2
  obtain⟨aCC,aNi,aNe,aCB,rfl,aNg,aNh,aNf⟩:=h45
  refine jl 0 (qp _ _ BJ)<|jn fun b7=>jd 8 [0,1,0]<|aS 5 fun adk aea OI=>jc (vs:=[.slice aCC l45.length aCB]) [] (atO (show a8 _ _ _ _ _ from ⟨aCC,aNi,aNe,aCB,rfl,aNg,aNh,aNf⟩) (by omega)) ?_
  rintro v51 L51 ⟨_,abR,rfl⟩
  obtain⟨adQ,adJ,aRA⟩:=abR.form
  subst aRA
  refine ep OI (zN 1 9)<|zD 1<|aS 7 fun P8 Qv OH=>jn fun b53=>ep OH (zN 1 10)<|aS 8 fun Ni Nt KD=>gL (sz:=1) (ps:=qs) (qs:=[((.slice adQ (l45).length adJ):Value)]) (enc:=fB) (w:= .slice (some ⟨b53,0,none⟩) 1 1) [4] [0] [(b53,.cells ⟨([((.slice adQ (l45).length adJ):Value)].map fB).flatten⟩ 81 (0,0))] (hG.2.1) (fun s _ hZ=>bN [((.slice adQ (l45).length adJ):Value)] (hZ _ (.head _)) (by intro p hp;rfl)) (by intro p hp;rw[List.mem_singleton] at hp;subst hp;exact ah rfl) (by simp<;>omega) (fun v54 L54 ahB=>?_)
  obtain⟨aLN,aLm,aRz⟩:=ahB.form
  subst aRz
  refine fR KD []<|zD 2<|aS 11 fun yG yI qN=>jd 1 [4]<|fR qN []<|zD 2<|ja ((j:Int)+1) (by omega)<|zD 2<|HM hK6 (⟨j+1,(.slice aLN ((qs++[((.slice adQ (l45).length adJ):Value)])).length aLm),L54,(qs++[((.slice adQ (l45).length adJ):Value)]),L51++Z1⟩) ⟨⟨by dsimp only;omega,by simp only[zM];omega⟩,ahB,fun aC hk=>mL (hG.2.2 aC hk.right) aFr (abR.jC hk.left)⟩ (by omega) [[4],[0],[2,5],[6],[7],[8],[9],[10]] (Sub.refl _)
 refine zD 3<|EL [1,1,1,1,1,1] [] (fun(zz:Value×Cells×Value×Cells)=>[(1,zP b1),(2,zP b2),(3,zP b3)]) (fun zz=>[.b b3 (.cells ⟨[v0,v1,(.slice rh (([]:List bU)).length qj),zz.1,zz.2.2.1,.slice ju K.rules.length jq,.slice jD K.before.length jv,.slice iW K.after.length iQ,zI K.gone,zI K.new,zI K.ab,.slice fp fs.length eS]⟩ 40 (0,0)),.l zz.2.1,.l zz.2.2.2,.l L1,.l Z1,.l L0,.l Z,.l L14,.b b2 (.cells ⟨zO⟩ 40 (0,0)),.b b1 (.cells ⟨[.slice kg fD.length jo,.slice eB fK.length dH,.slice fa 0 fc,.slice dS K.cs.length dP,.slice dC hv.length de,.slice ju K.rules.length jq,.slice jD K.before.length jv,.slice iW K.after.length iQ,zI K.gone,zI K.new,zI K.ab,.slice fp fs.length eS]⟩ 40 (0,0))]) (fun zz=>aw zz.1 2 140 lJ K.cs zz.2.1∧aw zz.2.2.1 4 143 jZ hv zz.2.2.2) ?_ (fun K11 aoO=>?_)
 ·
  rintro⟨vC,LC,vH,LH⟩ hJ rest
  dsimp only at hJ
  refine jd 6 [0]<|Fy hJ.2<|zD 3<|nB<|dL [1,1,1,1,1,1,0,1,0,0] [] (fun(zz:Nat×Value×Cells×(List aY)×Cells)=>[(1,zP b1),(2,zP b2),(3,zP b3),(72,zz.2.1),(73,zI (hv.length:Int)),(74,zI (zz.1:Int))]) (fun zz=>[.b b3 (.cells ⟨[v0,v1,(.slice rh (([]:List bU)).length qj),vC,zz.2.1,.slice ju K.rules.length jq,.slice jD K.before.length jv,.slice iW K.after.length iQ,zI K.gone,zI K.new,zI K.ab,.slice fp fs.length eS]⟩ 40 (0,0)),.l zz.2.2.1,.l zz.2.2.2.2,.l LC,.l L1,.l Z1,.l L0,.l Z,.l L14,.b b2 (.cells ⟨zO⟩ 40 (0,0)),.b b1 (.cells ⟨[.slice kg fD.length jo,.slice eB fK.length dH,.slice fa 0 fc,.slice dS K.cs.length dP,.slice dC hv.length de,.slice ju K.rules.length jq,.slice jD K.before.length jv,.slice iW K.after.length iQ,zI K.gone,zI K.new,zI K.ab,.slice fp fs.length eS]⟩ 40 (0,0))]) (fun zz=>(zz.1≤zz.2.2.2.1.length∧zz.2.2.2.1.length=hv.length∧zz.2.2.2.1.drop zz.1=hv.drop zz.1)∧aw zz.2.1 4 143 jZ zz.2.2.2.1 zz.2.2.1∧(∀aC,Sub oA aC→Knows aC zz.2.2.2.2→dc (oG aC) zz.2.2.2.1 K.hd)∧dc du zz.2.2.2.1 K.hd) (fun zz=>hv.length-zz.1) (⟨0,vH,LH,hv,[]⟩) ⟨⟨by omega,rfl,rfl⟩,hJ.2,fun _ hs _=>(aGp.up hs).2.2,mH⟩ [1,3,0,2,4,5,6,7,8,9,10] ?_
  rintro⟨k,vH,LH,hw,Z2⟩ hQ K12 aoN rest
  dsimp only at hQ
  refine zD 5<|zJ 75 ((k:Int) <(hv.length:Int)) (fun BT=>?_) fun BT=>?_
  ·
   refine zD 7 ?_
   obtain⟨x77,abE⟩:=zG hw k
   refine YT 4 hQ.2.1 abE fun b77 aSc=>oQ 0 [1] LH (fun s _ hZ=>cJ hQ.2.1 aSc hZ abE)<|jn fun b9=>zD 1<|PS 0 b9 0 [.string ByteArray.empty,zI 0,zI 0,zS] [.string x77.word,zI x77.cls,zI x77.lE,x77.dt] 143 (eX rJ _ (zL (IX hQ.1.2.2 abE))) rfl<|jd 8 [1,0]<|aS 6 (fun Xq XF DL=>?_)
   obtain⟨y77,avE,aP0⟩:=rJ.get (IX hQ.1.2.2 abE)
   have aXQ:=(hO.cX.u4 _ _ avE).2.2.1.1
   refine jc (vs:=[x77.dt]) [] (atK aP0.2.2.2 (by omega)) ?_
   rintro v85 L85 ⟨_,awt,rfl⟩
   refine ep DL (zN 1 12) ?_
   obtain⟨x86,ag0⟩:=zG hw k
   refine YT 4 hQ.2.1 ag0 fun b86 aSa=>zD 1<|aS 9 (fun ap6 aqt aiY=>?_)
   obtain⟨rh,qj,rj⟩:=awt.form
   subst rj
   refine R6 3 3 [(.slice rh (y77.dt).length qj)] (⟨x86.word,x86.cls,x86.lE,(.slice rh (y77.dt).length qj)⟩:aY) hQ.2.1 aSa ag0 rfl rfl (Nat.le_of_ble_eq_true rfl) fun L15 awv=>fR aiY []<|zD 2<|ja ((k:Int)+1) (by omega)<|zD 2<|HM aoN (⟨k+1,vH,L15,(hw.set k (⟨x86.word,x86.cls,x86.lE,(.slice rh (y77.dt).length qj)⟩:aY)),L85++Z2⟩) ⟨⟨by rw[List.length_set];omega,by rw[List.length_set];exact hQ.1.2.1,M1 hQ.1.2.2⟩,awv,(B7 hQ.2.2.1 hQ.2.2.2 abE ag0 avE awt).1,(B7 hQ.2.2.1 hQ.2.2.2 abE ag0 avE awt).2⟩ (by omega) [[3],[0],[1,4],[5],[6],[7],[8],[9],[10],[11],[12]] (Sub.refl _)
  refine zD 3<|EL [1,1,1,1,1,1,1,1] [] (fun(zz:Value×Cells×Value×Cells×Value×Cells×Value×Cells)=>[(2,zP b2),(3,zP b3)]) (fun zz=>[.b b3 (.cells ⟨[v0,v1,(.slice rh (([]:List bU)).length qj),vC,vH,zz.1,zz.2.2.1,zz.2.2.2.2.1,zI K.gone,zI K.new,zI K.ab,zz.2.2.2.2.2.2.1]⟩ 40 (0,0)),.l zz.2.1,.l zz.2.2.2.1,.l zz.2.2.2.2.2.1,.l zz.2.2.2.2.2.2.2,.l LH,.l Z2,.l LC,.l L1,.l Z1,.l L0,.l Z,.l L14,.b b2 (.cells ⟨zO⟩ 40 (0,0)),.b b1 (.cells ⟨[.slice kg fD.length jo,.slice eB fK.length dH,.slice fa 0 fc,.slice dS K.cs.length dP,.slice dC hv.length de,.slice ju K.rules.length jq,.slice jD K.before.length jv,.slice iW K.after.length iQ,zI K.gone,zI K.new,zI K.ab,.slice fp fs.length eS]⟩ 40 (0,0))]) (fun zz=>aw zz.1 2 84 fW K.rules zz.2.1∧aw zz.2.2.1 5 44 di K.before zz.2.2.2.1∧aw zz.2.2.2.2.1 5 44 di K.after zz.2.2.2.2.2.1∧aw zz.2.2.2.2.2.2.1 3 54 kJ fs zz.2.2.2.2.2.2.2) ?_ (fun K15 aoM=>?_)
  ·
   rintro⟨vR,LR,vB,LB,vA,LA,vF,LF⟩ hM rest
   dsimp only at hM
   refine jd 3 [0] ?_
   obtain⟨vo,vk,FK⟩:=hI.2.1.form
   subst FK
   obtain⟨UA,Qi,Im⟩:=hG.2.1.form
   subst Im
   obtain⟨atd,as1,axn⟩:=hJ.1.form
   subst axn
   obtain⟨adT,adM,aip⟩:=hQ.2.1.form
   subst aip
   obtain⟨aLY,aLx,aRI⟩:=hM.1.form
   subst aRI
   obtain⟨aLX,aLw,aRH⟩:=hM.2.1.form
   subst aRH
   obtain⟨atc,as0,aio⟩:=hM.2.2.1.form
   subst aio
   obtain⟨Uz,Ut,OD⟩:=hM.2.2.2.form
   subst OD
   refine jd 3 [13]<|zR (.agg ⟨[(.slice vo (ps).length vk),(.slice UA (qs).length Qi),(.slice rh (([]:List bU)).length qj),(.slice atd (K.cs).length as1),(.slice adT (hw).length adM),(.slice aLY (K.rules).length aLx),(.slice aLX (K.before).length aLw),(.slice atc (K.after).length as0),zI K.gone,zI K.new,zI K.ab,(.slice Uz (fs).length Ut)]⟩) [13] [1,2,3,4,7,5,6,8,9,10,11,12] (LR++(LB++(LA++(LF++(LC++(LH++(Z2++(L1++(Z1++(L0++(Z++L14))))))))))) ⟨_,_,rfl,⟨_,_,_,_,_,_,_,_,_,_,rfl,qn (cv hI.2.1) (cv hG.2.1) (cv hJ.1) (cv hQ.2.1) (cv hM.1) (cv hM.2.1) (cv hM.2.2.1) (cv hM.2.2.2)⟩,fun aC oC hk=>⟨_,_,_,_,_,_,_,_,_,_,hw,rfl,⟨_,hI.2.1.jC hk.right.right.right.right.right.right.right.right.right.left,by have:=hI.2.2 aC hk.right.right.right.right.right.right.right.right.right.right.left;rwa[List.take_of_length_le (by omega)] at this⟩,⟨_,hG.2.1.jC hk.right.right.right.right.right.right.right.left,by have:=hG.2.2 aC hk.right.right.right.right.right.right.right.right.left;rwa[List.take_of_length_le (by omega)] at this⟩,⟨hJ.1.jC hk.right.right.right.right.left,hQ.2.1.jC hk.right.right.right.right.right.left,hQ.2.2.1 aC oC hk.right.right.right.right.right.right.left⟩,hQ.2.2.2,hM.1.jC hk.left,hM.2.1.jC hk.right.left,hM.2.2.1.jC hk.right.right.left,hM.2.2.2.jC hk.right.right.right.left⟩,rfl⟩
  refine jd 9 [10,10,10,10]<|aS 2 fun ap5 aqs FM=>jc (vs:=[.slice ju K.rules.length jq]) [] (amt (show a8 _ _ _ _ _ from ⟨ju,Fg,Ff,jq,rfl,Kb,Ey,Ex⟩) (by omega)) ?_
  rintro v91 L91 ⟨_,aEU,rfl⟩
  obtain⟨aLD,aLc,aRq⟩:=aEU.form
  subst aRq
  refine ep FM (zN 1 11)<|zD 1<|aS 5 fun Xp XE DK=>jc (vs:=[.slice jD K.before.length jv]) [] (aeH (show a8 _ _ _ _ _ from ⟨jD,Hf,Hd,jv,rfl,He,Gi,Gh⟩) (by omega)) ?_
  rintro v94 L94 ⟨_,aET,rfl⟩
  obtain⟨aLC,aLb,aRp⟩:=aET.form
  subst aRp
  refine ep DK (zN 1 12)<|aS 8 fun adr aeh OP=>jc (vs:=[.slice iW K.after.length iQ]) [] (aeH (show a8 _ _ _ _ _ from ⟨iW,Fs,Fj,iQ,rfl,Fo,EA,Ez⟩) (by omega)) ?_
  rintro v97 L97 ⟨_,aES,rfl⟩
  obtain⟨aLA,aK9,aRn⟩:=aES.form
  subst aRn
  refine ep OP (zN 1 13)<|aS 11 fun adq aeg OO=>jc (vs:=[.slice fp fs.length eS]) [] (UW (show a8 _ _ _ _ _ from ⟨fp,td,tb,eS,rfl,wu,pM,pK⟩) (by omega)) ?_
  rintro aZQ aVr ⟨_,aru,rfl⟩
  obtain⟨aA4,aAW,aFX⟩:=aru.form
  subst aFX
  refine ep OO (zN 1 14)<|aS 13 fun ap4 aqr ON=>jd 1 [4]<|fR ON []<|zD 1<|aS 15 fun aAA aBs ab5=>jd 1 [4]<|fR ab5 []<|zD 1<|aS 17 fun aAz aBr Wl=>jd 1 [4]<|fR Wl []<|zD 1<|aS 19 fun ap3 aqq OM=>jd 1 [4]<|gA OM<|zD 1<|bF aoM ⟨(.slice aLD (K.rules).length aLc),L91,(.slice aLC (K.before).length aLb),L94,(.slice aLA (K.after).length aK9),L97,(.slice aA4 (fs).length aAW),aVr⟩ ⟨aEU,aET,aES,aru⟩ Nat.zero_lt_one [4,3,2,1,0,5,6,7,8,9,10,11,12,13,14] (Sub.refl _)
 refine jd 7 [7,7]<|aS 3 fun aAy aBq aiW=>jc (vs:=[.slice dS K.cs.length dP]) [] (atN (show a8 _ _ _ _ _ from ⟨dS,yw,yu,dP,rfl,AR,vK,vJ⟩) (by omega)) ?_
 rintro v61 L61 ⟨_,Sq,rfl⟩
 obtain⟨Uw,Uq,aik⟩:=Sq.form
 subst aik
 refine ep aiW (zN 1 8)<|zD 2<|aS 7 fun ap2 aqp OL=>jc (vs:=[.slice dC hv.length de]) [] (atL (show a8 _ _ _ _ _ from ⟨dC,s9,s8,de,rfl,uX,pJ,pH⟩) (by omega) rJ) ?_
 rintro v65 L65 ⟨_,aEW,rfl⟩
 obtain⟨aLJ,aLi,aRw⟩:=aEW.form
 subst aRw
 refine ep OL (zN 1 9)<|aS 10 fun Xo XB BS=>jd 1 [2]<|fR BS []<|zD 2<|aS 13 fun KS K0 DJ=>jd 1 [2]<|fR DJ []<|zD 1<|bF aoO ⟨(.slice Uw (K.cs).length Uq),L61,(.slice aLJ (hv).length aLi),L65⟩ ⟨Sq,aEW⟩ Nat.zero_lt_one [2,1,0,3,4,5,6,7,8,9] (Sub.refl _)
end Go.L
