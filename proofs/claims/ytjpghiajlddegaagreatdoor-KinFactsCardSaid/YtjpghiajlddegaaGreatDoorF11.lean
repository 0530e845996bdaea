/- Part 11 of the proof. -/
import Derived.Test.YtjpghiajlddegaaGreatDoorF10
set_option maxRecDepth 100000
set_option linter.all false
namespace Go.L
open Go Go.Conc Go.Proofs
variable {l z z1:List Value} {K:aP} {n b:Int} {T R:Nat→Nat→Int} {i ck j q bx sz na r dep by1 fc:Nat} {κ:Type} {seen:List Nat} {F:Nat→Nat→Bool} {t:ez} {fs:List ez} {ag:Bool} {xs:List Int} {v0 v1 v3 v5 v6 v7 vb vd:Value}
def aiQ[DecidableEq κ](r:Nat)(kv:κ→Value)(k:κ)(F:List (κ×Value))(b:Nat)(L:Cells):Prop:=
 ∃es ck i u,L=[(r,.map es ck)]∧tJ kv F es ck∧sM k F 0=some (i,u)∧(es.toList.map (·.born))[i]?=some b
theorem aiQ.own[DecidableEq κ]{kv:κ→Value}{k:κ}{F:List (κ×Value)}{b:Nat}{L:Cells}(h:aiQ r kv k F b L):kD r kv F L:=by
 obtain⟨es,ck,_,_,h1,h2,_⟩:=h
 exact⟨es,ck,h1,h2⟩
def meV(P:Program)(n:Nat)(p:Oper)(e:Env):Option (TypeId×TypeId×Value×Value):=match p.op with
 | .mapEntry T x y=>match aW P T with
  |some ⟨.map K E,_,_,_⟩=>match bh n e x with
   |some m=>match bh n e y with
    |some k=>some (K,E,m,k)
    |none=>none
   |none=>none
  |_=>none
 |_=>none
def esV(n:Nat)(p:Oper)(e:Env):Option (Value×Value×Value):=match p.op with
 | .entryStore _ x y z=>match bh n e x with
  |some m=>match bh n e y with
   |some b=>match bh n e z with
    |some v=>some (m,b,v)
    |none=>none
   |none=>none
  |none=>none
 |_=>none
theorem Bc[DecidableEq κ]{k:κ}{v:Value}:∀ {F:List (κ×Value)} {i:Nat},sM k F i=none→sM k (F++[(k,v)]) i=some (i+F.length,v)
 | [],i,_=>by simp[sM]
 |x::l,i,h=>by
  simp only[sM] at h
  split at h
  ·cases h
  rename_i hk
  rw[List.cons_append,sM,if_neg hk,Bc h,List.length_cons,show i+1+l.length=i+(l.length+1) by omega]
theorem WE{kv:κ→Value}{k:κ}{v:Value}:∀(es:List MapEntry) (F:List (κ×Value)) (i:Nat) {u:Value},F[i]?=some (k,u)→es.map (fun e=>(e.key,e.val))=F.map (fun x=>(kv x.1,x.2))→(es.modify i fun e=>{e with val:=v}).map (fun e=>(e.key,e.val))=(tT k v F i).map (fun x=>(kv x.1,x.2))
 | [],[],_,_,h,_=>by simp at h
 | [],_::_,_,_,_,h=>by simp at h
 |_::_,[],_,_,_,h=>by simp at h
 |e::es,x::F,0,_,h1,h=>by
  simp only[List.map_cons,List.cons.injEq,Prod.mk.injEq] at h
  simp at h1;subst h1
  simp[tT,h.2,h.1.1]
 |e::es,x::F,i+1,_,h1,h=>by
  simp only[List.map_cons,List.cons.injEq] at h
  simp at h1
  simp[tT,h.1,WE es F i h1 h.2]
theorem HS{v:Value}:∀(es:List MapEntry) (i:Nat),(es.modify i fun e=>{e with val:=v}).map (·.born)=es.map (·.born)
 | [],i=>by simp
 |e::es,0=>by simp
 |e::es,i+1=>by simp[HS es i]
theorem Bv{kx:Value}:∀(es:List MapEntry) (i:Nat),(es.modify i fun e=>{e with key:=kx}).map (·.born)=es.map (·.born)
 | [],i=>by simp
 |e::es,0=>by simp
 |e::es,i+1=>by simp[Bv es i]
theorem WG{kv:κ→Value}{k:κ}:∀(es:List MapEntry) (F:List (κ×Value)) (i:Nat) {u:Value},F[i]?=some (k,u)→es.map (fun e=>(e.key,e.val))=F.map (fun x=>(kv x.1,x.2))→(es.modify i fun e=>{e with key:=kv k}).map (fun e=>(e.key,e.val))=F.map (fun x=>(kv x.1,x.2))
 | [],[],_,_,h,_=>by simp at h
 | [],_::_,_,_,_,h=>by simp at h
 |_::_,[],_,_,_,h=>by simp at h
 |e::es,x::F,0,_,h1,h=>by
  simp only[List.map_cons,List.cons.injEq,Prod.mk.injEq] at h
  simp at h1;subst h1
  simp[h.2,h.1.2]
 |e::es,x::F,i+1,_,h1,h=>by
  simp only[List.map_cons,List.cons.injEq] at h
  simp at h1
  simp[h.1,WG es F i h1 h.2]
theorem X9{es eH:Array MapEntry}(h:∀e∈es.toList,e.born <ck)(hb:eH.toList.map (·.born)=es.toList.map (·.born)):∀e∈eH.toList,e.born <ck:=fun e he=>by
 have:e.born∈eH.toList.map (·.born):=List.mem_map_of_mem he
 rw[hb] at this
 obtain⟨e2,h3,h4⟩:=List.mem_map.1 this
 rw[←h4];exact h e2 h3
section
variable {X:Cx} {o:Option JS}
theorem jSk{β:Type}{f:Oper→Env→Option β}{r:β}{Φ:Cells→Prop}(ps:List Nat)(B:Cells)(hv:fG X.n f o=some r)(hB:ek ps o=some B)
 (hy:∀p e,f p e=some r→(∀c,p.op≠ .defer c)∧∀(R:Cells) (Q:Next→St→Prop) (E:Halt→St→Prop),(∀L',Φ L'→Q .skip ⟨X.ro,L'++R⟩)→bL X.P (execOp (ev X.n e) p) ⟨X.ro,B++R⟩ Q E)
 (hj:∀L',Φ L'→J X (nI ps undef L' o)):J X o:=by
 obtain⟨ops,i,todo,k,e,w,kn,p,rfl,ho,hw,hc⟩:=dG hv
 intro bR
 have hp:=bD hB
 obtain⟨hd,ht⟩:=hy p e hc
 have:ab X.C X.fn X.aA ops (i::todo) (KQ X k) (A X.n e X.D) ⟨X.ro,B++den (dK ps 0 w)⟩:=by
  refine bN X.hC ho hw hd<|ht _ _ _ fun L' qE=>?_
  have:=hj L' qE
  rw[oE ho] at this
  have:=this bR
  simp only[JP,gZ] at this
  show ab _ _ _ _ _ _ _ _
  rw[←aV] at this
  exact this
 have hle:(⟨X.ro,B++den (dK ps 0 w)⟩:St).le ⟨X.ro,den w⟩:=⟨[],by rw[List.append_nil];exact hp,fun b o hb=> .inl hb⟩
 exact this.more X.hC hle
theorem jme[DecidableEq κ]{kv:κ→Value}{F:List (κ×Value)}{K E:TypeId}{L:Cells}{d:TypeDesc}(i:Nat)(k:κ)(hk:RD X.P K kv)(te:TF X.P E d sz bx z ag)(hm:kD r kv F L)
 (hj:∀F1 b c L',(((∃u,sM k F 0=some u)∧F1=F)∨(sM k F 0=none∧F1=F++[(k,Oh z ag)]))→aiQ r kv k F1 b L'→J X (nI [i] (.tuple ⟨[c,zI (b:Int)]⟩) L' o))
 (hv:fG X.n (meV X.P X.n) o=some (K,E,.map (some r),kv k):=by kernel_rfl)(hB:ek [i] o=some L:=by kernel_rfl):J X o:=by
 refine jS (Φ:=fun v L'=>∃F1 b c,(((∃u,sM k F 0=some u)∧F1=F)∨(sM k F 0=none∧F1=F++[(k,Oh z ag)]))∧aiQ r kv k F1 b L'∧v= .tuple ⟨[c,zI (b:Int)]⟩) [i] _ hv hB (fun p e hf=>?_) (fun v L' qE=>?_)
 ·unfold meV at hf
  split at hf<;>try (cases hf;done)
  rename_i T x y ay
  split at hf<;>try (cases hf;done)
  rename_i K' E' _ _ _ dZ
  split at hf<;>try (cases hf;done)
  rename_i m hx
  split at hf<;>try (cases hf;done)
  rename_i k' hy
  simp only[Option.some.injEq,Prod.mk.injEq] at hf
  obtain⟨rfl,rfl,rfl,rfl⟩:=hf
  obtain⟨bgz,tf⟩:=ar dZ
  refine⟨by rw[ay];simp,fun R Q E hQ=>?_⟩
  obtain⟨es,ck,rfl,Ad⟩:=hm
  simp only[execOp,ay,Instr.mapEntry,aa,aX tf,aE hx,aE hy]
  refine cA (.inr (List.mem_append_left _ List.mem_cons_self)) rfl rfl ?_
  simp only[aa]
  refine hk.chk _ _ ?_
  simp only[aa]
  refine hk.find k _ F Ad.1 ?_
  cases ya:sM k F 0 with
  |some u=>
   obtain⟨j,u⟩:=u
   have RZ:=qO ya
   simp only[Nat.sub_zero] at RZ
   have h1:(es.toList.map (fun e=>(e.key,e.val)))[j]?=some (kv k,u):=by rw[Ad.1];simp[RZ.2]
   simp only[List.getElem?_map,Array.getElem?_toList] at h1
   cases he:es[j]? with
   |none=>rw[he] at h1;cases h1
   |some e1=>
    rw[he] at h1
    simp only[Option.map_some,Option.some.injEq,Prod.mk.injEq] at h1
    simp only[aa,Instr.keyThatStays,he,Option.map_some,Option.getD_some,h1.1,hk.stay,if_true,ae]
    refine eJ (L:=[]) rfl rfl rfl ?_
    simp only[ae]
    refine hQ _ [(r,_)] ⟨F,e1.born,u,.inl ⟨⟨_,ya⟩,rfl⟩,⟨_,_,j,u,rfl,⟨?_,?_,?_⟩,ya,?_⟩,rfl⟩
    ·rw[Array.toList_modify];exact WG _ _ _ RZ.2 Ad.1
    ·rw[Array.toList_modify,Bv];exact Ad.2.1
    ·exact X9 Ad.2.2 (by rw[Array.toList_modify,Bv])
    rw[Array.toList_modify,Bv,List.getElem?_map,Array.getElem?_toList,he];rfl
  |none=>
   simp only[aa,kI te]
   refine eJ (L:=[]) rfl rfl rfl ?_
   simp only[ae]
   have hlen:es.toList.length=F.length:=by have:=congrArg List.length Ad.1;simpa using this
   refine hQ _ [(r,_)] ⟨_,ck,_,.inr ⟨ya,rfl⟩,⟨_,_,F.length,_,rfl,⟨?_,?_,?_⟩,by have:=Bc (v:=Oh z ag) ya;rwa[Nat.zero_add] at this,?_⟩,rfl⟩
   ·simp only[Array.toList_push,List.map_append,Ad.1];rfl
   ·simp only[Array.toList_push,List.map_append,List.map_cons,List.map_nil]
    refine List.nodup_append.2 ⟨Ad.2.1,by simp,?_⟩
    intro a ha b hb
    obtain⟨e2,h3,rfl⟩:=List.mem_map.1 ha
    have:=Ad.2.2 e2 h3
    simp only[List.mem_singleton] at hb
    omega
   ·intro e1 h1
    simp only[Array.toList_push,List.mem_append,List.mem_singleton] at h1
    rcases h1 with h1|rfl
    ·have:=Ad.2.2 e1 h1;omega
    exact Nat.lt_succ_self _
   simp only[Array.toList_push,List.map_append,List.map_cons,List.map_nil]
   rw[List.getElem?_append_right (by simp[hlen])]
   simp[hlen]
 obtain⟨F1,b,c,h1,h2,rfl⟩:=qE
 exact hj F1 b c L' h1 h2
theorem jes[DecidableEq κ]{kv:κ→Value}{F:List (κ×Value)}{b:Nat}{L:Cells}{k:κ}(i:Nat)(v:Value)(hm:aiQ r kv k F b L)(hj:∀L',kD r kv (mV k v F) L'→J X (nI [i] undef L' o))
 (hv:fG X.n (esV X.n) o=some (.map (some r),zI (b:Int),v):=by kernel_rfl)(hB:ek [i] o=some L:=by kernel_rfl):J X o:=by
 refine jSk (Φ:=kD r kv (mV k v F)) [i] _ hv hB (fun p e hf=>?_) hj
 unfold esV at hf
 split at hf<;>try (cases hf;done)
 rename_i T x y zz ay
 split at hf<;>try (cases hf;done)
 rename_i m hx
 split at hf<;>try (cases hf;done)
 rename_i b' hy
 split at hf<;>try (cases hf;done)
 rename_i v' hz
 simp only[Option.some.injEq,Prod.mk.injEq] at hf
 obtain⟨rfl,rfl,rfl⟩:=hf
 refine⟨by rw[ay];simp,fun R Q E hQ=>?_⟩
 obtain⟨es,ck,j,u,rfl,Ad,ya,hb⟩:=hm
 have RZ:=qO ya
 simp only[Nat.sub_zero] at RZ
 simp only[execOp,ay,Instr.entryStore,aa,aE hx,aE hy,aE hz]
 refine cA (.inr (List.mem_append_left _ List.mem_cons_self)) rfl rfl ?_
 have aRH:es.findIdx? (fun e=>(e.born:Int)==(b:Int))=some j:=by
  rw[List.getElem?_map,Array.getElem?_toList] at hb
  obtain⟨e1,he,rfl⟩:=Option.map_eq_some_iff.1 hb
  obtain⟨h1,h2⟩:=Array.getElem?_eq_some_iff.1 he
  refine Array.findIdx?_eq_some_iff_getElem.2 ⟨h1,by simp[h2],fun q hq=>?_⟩
  have mN:=Ad.2.1
  have:=List.pairwise_iff_getElem.1 mN q j (by simp;omega) (by simp;omega) hq
  simp only[List.getElem_map,Array.getElem_toList,h2] at this
  simp only[beq_iff_eq]
  omega
 simp only[aa,asInt,asIntOf,ae,aRH]
 refine eJ (L:=[]) rfl rfl rfl ?_
 show Q .skip _
 refine hQ [(r,_)] ⟨_,_,rfl,?_,?_,?_⟩
 ·rw[Array.toList_modify,mV,ya];exact WE _ _ _ RZ.2 Ad.1
 ·rw[Array.toList_modify,HS];exact Ad.2.1
 exact X9 Ad.2.2 (by rw[Array.toList_modify,HS])
end
abbrev v4(a b c d:Int):Value:= .agg ⟨[zI a,zI b,zI c,zI d]⟩
theorem aGP{P:Program}{T:TypeId}(tf:TF P T (.array 4 3) sz bx z ag)(t3:TF P 3 (.int .i64) 1 by1 z1 false)(a b c d a' b' c' d':Int):
 EqD P (dep+2) T (v4 a b c d) (v4 a' b' c' d') (a==a'&&(b==b'&&(c==c'&&(d==d'&&true)))):=by
 intro α s k Q E
 rw[Op.equalIn]
 simp only[aa,aX tf,cg t3]
 simp only[Std.Legacy.Range.forIn_eq_forIn_range',Std.Legacy.Range.size,Nat.sub_zero,Nat.add_sub_cancel,Nat.div_one,List.range'_succ,List.range'_zero,List.forIn_cons,List.forIn_nil,aa,Nat.zero_add,Nat.mul_one]
 have p (l:List Value) (o:Nat) (v:Value) (h:nth l o=some v):H6 P 3 l o v:=kN t3 h
 rw[p _ 0 (zI a) rfl];simp only[aa]
 rw[p _ 0 (zI a') rfl];simp only[aa]
 rw[oD t3 a a']
 cases ha:a==a' with
 |false=>simp only[Bool.not_false,if_true,ae,aa,Bool.false_and]
 |true=>
 simp only[Bool.not_true,Bool.false_eq_true,if_false,ae,Bool.true_and,aa]
 rw[p _ 1 (zI b) rfl];simp only[aa]
 rw[p _ 1 (zI b') rfl];simp only[aa]
 rw[oD t3 b b']
 cases hb:b==b' with
 |false=>simp only[Bool.not_false,if_true,ae,aa,Bool.false_and]
 |true=>
 simp only[Bool.not_true,Bool.false_eq_true,if_false,ae,Bool.true_and,aa]
 rw[p _ 2 (zI c) rfl];simp only[aa]
 rw[p _ 2 (zI c') rfl];simp only[aa]
 rw[oD t3 c c']
 cases hc:c==c' with
 |false=>simp only[Bool.not_false,if_true,ae,aa,Bool.false_and]
 |true=>
 simp only[Bool.not_true,Bool.false_eq_true,if_false,ae,Bool.true_and,aa]
 rw[p _ 3 (zI d) rfl];simp only[aa]
 rw[p _ 3 (zI d') rfl];simp only[aa]
 rw[oD t3 d d']
 cases hd:d==d' with
 |false=>simp only[Bool.not_false,if_true,ae,aa,Bool.false_and]
 |true=>simp only[Bool.not_true,Bool.false_eq_true,if_false,ae,Bool.true_and,aa]
theorem ck4{P:Program}{T:TypeId}(tf:TF P T (.array 4 3) sz bx z ag)(t3:TF P 3 (.int .i64) 1 by1 z1 false)(a b c d:Int):CkD P (dep+2) T (v4 a b c d):=by
 intro bb α K s Q E
 rw[Instr.checkKey]
 simp only[aa,aX tf]
 simp only[Std.Legacy.Range.forIn_eq_forIn_range',Std.Legacy.Range.size,Nat.sub_zero,Nat.add_sub_cancel,Nat.div_one,List.range'_succ,List.range'_zero,List.forIn_cons,List.forIn_nil,aa,Nat.zero_add,cg t3,Nat.zero_mul,Nat.mul_one]
 have p (l:List Value) (o:Nat) (v:Value) (h:nth l o=some v):H6 P 3 l o v:=kN t3 h
 rw[p _ 0 (zI a) rfl];simp only[aa];rw[HH t3 a bb];simp only[ae,aa,cg t3,Nat.mul_one]
 rw[p _ 1 (zI b) rfl];simp only[aa];rw[HH t3 b bb];simp only[ae,aa,cg t3,Nat.mul_one]
 rw[p _ 2 (zI c) rfl];simp only[aa];rw[HH t3 c bb];simp only[ae,aa,cg t3,Nat.mul_one]
 rw[p _ 3 (zI d) rfl];simp only[aa];rw[HH t3 d bb];simp only[ae,aa]
abbrev P4:=Int×Int×Int×Int
abbrev Ie(x:P4):Value:=v4 x.1 x.2.1 x.2.2.1 x.2.2.2
theorem aef:RD zT 122 Ie:=aee (nJ Tryz.typeInfo122 Tryz.underlying122 rfl rfl rfl rfl rfl rfl) (fun k=>⟨_,rfl⟩)
 (fun k=>ck4 (dep:=9998) (nJ Tryz.typeInfo122 Tryz.underlying122 rfl rfl rfl rfl rfl rfl) ng _ _ _ _)
 (fun a b=>by
  have h:=aGP (dep:=9998) (nJ Tryz.typeInfo122 Tryz.underlying122 rfl rfl rfl rfl rfl rfl) ng a.1 a.2.1 a.2.2.1 a.2.2.2 b.1 b.2.1 b.2.2.1 b.2.2.2
  have e:(a.1==b.1&&(a.2.1==b.2.1&&(a.2.2.1==b.2.2.1&&(a.2.2.2==b.2.2.2&&true))))=decide (a=b):=by
   rcases a with ⟨x,y,z,t⟩;rcases b with ⟨u,v,w,r⟩
   rw[Bool.eq_iff_iff];simp
  rwa[e] at h)
 (fun k=>by simp[Instr.sameBits])
structure iu where
 c:Nat→Nat→Int
abbrev C3(m:iu):List Value:=[zI (m.c 0 0),zI (m.c 0 1),zI (m.c 0 2),zI (m.c 0 3),zI (m.c 1 0),zI (m.c 1 1),zI (m.c 1 2),zI (m.c 1 3),zI (m.c 2 0),zI (m.c 2 1),zI (m.c 2 2),zI (m.c 2 3),zI (m.c 3 0),zI (m.c 3 1),zI (m.c 3 2),zI (m.c 3 3)]
theorem AP{m:iu}{a b:Nat}(h:a <4)(k:b <4):nth (C3 m) (0+(a:Int).toNat*4+(b:Int).toNat*1)=some (zI (m.c a b)):=by
 rcases Ka h with rfl|rfl|rfl|rfl<;>rcases Ka k with rfl|rfl|rfl|rfl<;>rfl
def r5(m:iu)(a b:Nat)(v:Int):iu:=⟨fun i j=>if i=a∧j=b then v else m.c i j⟩
theorem ak9{m:iu}{a b:Nat}{v:Int}(h:a <4)(k:b <4):dI (C3 m) (0+(a:Int).toNat*4+(b:Int).toNat*1) [zI v]=C3 (r5 m a b v):=by
 rcases Ka h with rfl|rfl|rfl|rfl<;>rcases Ka k with rfl|rfl|rfl|rfl<;>rfl
theorem ala{m:iu}{a b:Nat}{v:Value}(h:a <4)(k:b <4):Nat.ble ((0+(a:Int).toNat*4+(b:Int).toNat*1)+[v].length) (C3 m).length=true:=by
 rcases Ka h with rfl|rfl|rfl|rfl<;>rcases Ka k with rfl|rfl|rfl|rfl<;>rfl
def pI(x:aw):Nat→Int
 |0=>x.w0
 |1=>x.w1
 |2=>x.w2
 |_=>x.w3
def az(zs:List aw):iu:=⟨fun i j=>((zs.filter fun x=>decide (pI x i=(j:Int)+1)).length:Int)⟩
theorem Nv(zs:List aw)(i j:Nat):0≤(az zs).c i j∧(az zs).c i j≤zs.length:=by
 have:=List.length_filter_le (fun x=>decide (pI x i=(j:Int)+1)) zs
 simp only[az];omega
theorem Bo{zs ys:List aw}(h:zs.Perm ys):az zs=az ys:=by
 simp only[az,(h.filter _).length_eq]
theorem Mx{r:bP}{p:Nat→Int}(hp:∀i,0≤p i∧p i≤4)(q:Nat):0≤pI (cY K r i p) q∧pI (cY K r i p) q≤4:=match q with
 |0=>hp 0
 |1=>hp 1
 |2=>hp 2
 |_+3=>hp 3
def tK:Prop:=∀ {ro:Nat→Option Obj} {v:Value} {zs:List aw},bE ro v 8 cR zs→zs.length≤100000→(∀x∈zs,∀q,0≤pI x q∧pI x q≤4)→eS zT 47 [v] ro [] (fun r Y=>r= .agg ⟨C3 (az zs)⟩∧Y=[])
def rF(m:iu)(n:Int)(i:Nat):Nat→List (List Int)
 |0=>[]
 |j+1=>rF m n i j++(bif decide (m.c i j=n) then [[(i:Int),(j:Int)]] else [])
def yg(m:iu)(n:Int)(w:Nat):Nat→List (List Int)
 |0=>[]
 |i+1=>yg m n w i++rF m n i w
theorem Wy{m:iu}(h:m.c i j=n):rF m n i (j+1)=rF m n i j++[[(i:Int),(j:Int)]]:=by rw[rF,decide_eq_true h];rfl
theorem Wz{m:iu}(h:¬m.c i j=n):rF m n i (j+1)=rF m n i j:=by rw[rF,decide_eq_false h];exact List.append_nil _
theorem Cg(m:iu)(n:Int)(i:Nat):∀j,(rF m n i j).length≤j
 |0=>Nat.le_refl _
 |j+1=>by have:=Cg m n i j;rw[rF,List.length_append];cases decide (m.c i j=n)<;>simp<;>omega
theorem J7(m:iu)(n:Int){w:Nat}(hw:w≤4):∀i,(yg m n w i).length≤4*i
 |0=>Nat.le_refl _
 |i+1=>by have:=J7 m n hw i;have:=Cg m n i w;rw[yg,List.length_append];omega
theorem aly{rows:List bP}{ro:Nat→Option Obj}(hK:gF ro l K)(hV:gh K)(hR:rows.length≤2)(hB:lB ro l K rows)(hCt:tK):EW zT 50 [.agg ⟨l⟩,.func (.func 80) ⟨[]⟩ ⟨[]⟩] ro [] (fun r Y=>∃zs v e,zs.Perm (ep K (cb K) (dA K.gone K.new K.af) rows)∧r= .tuple ⟨[v,zI e]⟩∧((zs=[]∧v= zS∧e=9∧Y=[])∨(zs≠[]∧e=0∧∀aF,Knows aF Y→LL aF v (yg (az zs) ((zs.length:Nat):Int) K.after.length K.before.length)))):=by
 obtain⟨v0,v1,v3,v4,v5,v6,v7,vb,fa,fc,hv,rfl,_⟩:=id hK
 refine Ep au [] [] bu fun fr=>zD 2<|jn fun b2=>jd 6 [0]<|alI (vs:=[.agg ⟨[v0,v1,.slice fa 0 fc,v3,v4,v5,v6,v7,zI K.gone,zI K.new,zI K.af,vb]⟩]) [] (fun _ _ h=>h) (WZ hK hV hR hB) ?_
 rintro _ aB Y15 cd ⟨f15,zs,v15,e15,rfl,Jc,hz,afq,he⟩
 have aeT:∀x∈zs,(-4≤x.gone∧x.gone≤4)∧(-4≤x.new∧x.new≤4)∧(0≤x.af∧x.af≤4):=fun x hx=>by obtain⟨i,r,p,_,_,rfl,_⟩:=nA (hz.mem_iff.1 hx);exact qg hV r i p
 have hzl:zs.length≤1250:=by rw[hz.length_eq];exact qW hV _ _ hR
 have hpr:∀x∈zs,∀q,0≤pI x q∧pI x q≤4:=fun x hx=>by obtain⟨i,r,p,_,hp,rfl,_⟩:=nA (hz.mem_iff.1 hx);exact Mx ((kO hV _).2 p hp)
 obtain⟨d0,d1,d2,d3,d4,d5,d6,d7,d8,d9,dh,hf,qj,nN,hr,CI,Hf,I8,bO⟩:=id Jc
 obtain⟨kV,IQ,IN,kz,rfl,IP,Ei,Eh⟩:=CI
 obtain⟨kX,IU,IS,kA,rfl,IT,Ek,Ej⟩:=Hf
 have Fj:=hV.before.1
 have Ik:=hV.after.1
 refine zD 7<|jf [0] Y15 (fun ro4 pe Xq=>?_)
 have hZ1:=afq.lR Xq
 obtain⟨vo,Tb,S9,s9,rfl,Ta,Mf,Me⟩:=hZ1
 refine zD 7<|js 20 (!decide (e15=0)) (fun h5=>?_) (fun h5=>?_)
 ·
  replace h5:=of_decide_eq_false (by simpa using h5)
  have vK:zs=[]∧e15=9:=by rcases he with h| ⟨_,h⟩;exact h;omega
  refine zD 8<|N4 qC.a.a (.tuple ⟨[zS,zI e15]⟩) [1] [] (cd.trans pe) ⟨zs,_,_,hz,rfl,.inl ⟨vK.1,rfl,vK.2,rfl⟩⟩
 replace h5:=of_decide_eq_true (by simpa using h5)
 have vK:zs≠[]∧e15=0:=by rcases he with ⟨_,h⟩|h;omega;exact h
 refine zD 9<|jc (vs:=[.slice vo zs.length s9]) [] (hCt (show bE _ _ _ _ _ from ⟨vo,Tb,S9,s9,rfl,Ta,Mf,Me⟩) (by omega) hpr) ?_
 rintro _ _ ⟨rfl,rfl⟩
 refine jg 0 []<|jn fun pH=>jd 9 [0]<|jl (b:=f15) (off:=0) (m:=13) (vs:=[d0,d1,d2,d3,d4,d5,.slice kV K.before.length kz,.slice kX K.after.length kA,zI K.gone,zI K.new,zI K.af,d8,d9]) 6 ⟨_,_,_,.inl (pe _ _ hf),rfl⟩<|zD 4<|py<|py<|eO [1,1,1,1,1,0,1,0,0] [] (fun(zz:Nat×Value×Cells×(List Value)×Cells)=>[(1,.func (.func 80) ⟨[]⟩ ⟨[]⟩),(4,zS),(5,zI 0),(6,zP f15),(7,.slice vo zs.length s9),(9,zz.2.1),(10,zP pH),(29,zI (K.before.length:Int)),(30,zI (zz.1:Int))]) (fun(zz:Nat×Value×Cells×(List Value)×Cells)=>[.l zz.2.2.1,.l zz.2.2.2.2,.b pH (.cells ⟨[zI ((az zs).c 0 0),zI ((az zs).c 0 1),zI ((az zs).c 0 2),zI ((az zs).c 0 3),zI ((az zs).c 1 0),zI ((az zs).c 1 1),zI ((az zs).c 1 2),zI ((az zs).c 1 3),zI ((az zs).c 2 0),zI ((az zs).c 2 1),zI ((az zs).c 2 2),zI ((az zs).c 2 3),zI ((az zs).c 3 0),zI ((az zs).c 3 1),zI ((az zs).c 3 2),zI ((az zs).c 3 3)]⟩ 112 (0,0)),.b b2 (.cells ⟨[v0,v1,.slice fa 0 fc,v3,v4,v5,v6,v7,zI K.gone,zI K.new,zI K.af,vb]⟩ 38 (0,0)),.l fr]) (fun(zz:Nat×Value×Cells×(List Value)×Cells)=>(zz.1≤K.before.length∧zz.2.2.2.1.length=(yg (az zs) ((zs.length:Nat):Int) K.after.length zz.1).length)∧ax zz.2.1 1 22 gJ zz.2.2.2.1 zz.2.2.1∧∀aF,Knows aF zz.2.2.2.2→dg (fun w l=>bE aF w 1 cT l) zz.2.2.2.1 (yg (az zs) ((zs.length:Nat):Int) K.after.length zz.1)) (fun(zz:Nat×Value×Cells×(List Value)×Cells)=>K.before.length-zz.1) (⟨0,zS,[],[],[]⟩) ⟨⟨by dsimp only;omega,rfl⟩,ax.nil _ _ _,fun _ _=> .nil⟩ [1,0,2,3,4] ?_
 rintro⟨i,vO,LO,es,Z⟩ hI K1 bG rest
 dsimp only at hI
 have hil:=J7 (az zs) ((zs.length:Nat):Int) (w:=K.after.length) (by omega) i
 refine zD 5<|zJ 31 ((i:Int) <(K.before.length:Int)) (fun h6=>?_) fun h6=>?_
 ·
  refine zD 15<|jl (b:=f15) (off:=0) (m:=13) (vs:=[d0,d1,d2,d3,d4,d5,.slice kV K.before.length kz,.slice kX K.after.length kA,zI K.gone,zI K.new,zI K.af,d8,d9]) 7 ⟨_,_,_,.inl (pe _ _ hf),rfl⟩<|zD 4<|eO [1,1,1,1,1,0,1,0,0,1,1,0,0,1,1,0,0] [K1] (fun(zz:Nat×Value×Cells×(List Value)×Cells)=>[(1,.func (.func 80) ⟨[]⟩ ⟨[]⟩),(4,zS),(5,zI 0),(6,zP f15),(7,.slice vo zs.length s9),(9,zz.2.1),(10,zP pH),(11,zI (i:Int)),(29,zI (K.before.length:Int)),(30,zI (i:Int)),(38,zI (K.after.length:Int)),(39,zI (zz.1:Int))]) (fun(zz:Nat×Value×Cells×(List Value)×Cells)=>[.l zz.2.2.1,.l zz.2.2.2.2,.b pH (.cells ⟨[zI ((az zs).c 0 0),zI ((az zs).c 0 1),zI ((az zs).c 0 2),zI ((az zs).c 0 3),zI ((az zs).c 1 0),zI ((az zs).c 1 1),zI ((az zs).c 1 2),zI ((az zs).c 1 3),zI ((az zs).c 2 0),zI ((az zs).c 2 1),zI ((az zs).c 2 2),zI ((az zs).c 2 3),zI ((az zs).c 3 0),zI ((az zs).c 3 1),zI ((az zs).c 3 2),zI ((az zs).c 3 3)]⟩ 112 (0,0)),.b b2 (.cells ⟨[v0,v1,.slice fa 0 fc,v3,v4,v5,v6,v7,zI K.gone,zI K.new,zI K.af,vb]⟩ 38 (0,0)),.l fr]) (fun(zz:Nat×Value×Cells×(List Value)×Cells)=>(zz.1≤K.after.length∧zz.2.2.2.1.length=((yg (az zs) ((zs.length:Nat):Int) K.after.length i)++(rF (az zs) ((zs.length:Nat):Int) i zz.1)).length)∧ax zz.2.1 1 22 gJ zz.2.2.2.1 zz.2.2.1∧∀aF,Knows aF zz.2.2.2.2→dg (fun w l=>bE aF w 1 cT l) zz.2.2.2.1 ((yg (az zs) ((zs.length:Nat):Int) K.after.length i)++(rF (az zs) ((zs.length:Nat):Int) i zz.1))) (fun(zz:Nat×Value×Cells×(List Value)×Cells)=>K.after.length-zz.1) (⟨0,vO,LO,es,Z⟩) ⟨⟨by dsimp only;omega,by simpa [rF] using hI.1.2⟩,hI.2.1,by simpa [rF] using hI.2.2⟩ [0,1,2,3,4] ?_
  rintro⟨j,vO,LO,es,Z⟩ hJ K2 mg rest
  dsimp only at hJ
  have hjl:=Cg (az zs) ((zs.length:Nat):Int) i j
  have Xt:=hJ.1.2
  rw[List.length_append] at Xt
  refine zD 5<|zJ 40 ((j:Int) <(K.after.length:Int)) (fun h7=>?_) fun h7=>?_
  ·
   refine zD 10 ?_
   have iZ:=Nv zs i j
   refine zD 4<|Ig (b:=pH) (off:=0) (len:=4) (sz:=4) (i:Int) (by omega)<|Ig (b:=pH) (off:=0+(i:Int).toNat*4) (len:=4) (sz:=1) (j:Int) (by omega)<|px (b:=pH) (off:=0+(i:Int).toNat*4+(j:Int).toNat*1) (m:=1) (vs:=[zI ((az zs).c i j)]) 0 [2] [(pH,.cells ⟨[zI ((az zs).c 0 0),zI ((az zs).c 0 1),zI ((az zs).c 0 2),zI ((az zs).c 0 3),zI ((az zs).c 1 0),zI ((az zs).c 1 1),zI ((az zs).c 1 2),zI ((az zs).c 1 3),zI ((az zs).c 2 0),zI ((az zs).c 2 1),zI ((az zs).c 2 2),zI ((az zs).c 2 3),zI ((az zs).c 3 0),zI ((az zs).c 3 1),zI ((az zs).c 3 2),zI ((az zs).c 3 3)]⟩ 112 (0,0))] (fun s _ hZ=>qu (hZ _ (.head _)) (AP (m:=az zs) (by omega) (by omega)))<|zD 2<|jp (vs:=[zI ((az zs).c i j),zI (zs.length:Int)]) [] [] (fun aB hs hZ=>asW)<|zD 1<|js 50 (decide (((az zs).c i j)=(zs.length:Int))) (fun h8=>?_) (fun h8=>?_)
   ·
    refine zD 5<|jn fun Rt=>jn fun b55=>jE (sz:=1) (ps:=es) (qs:=[(.slice (some ⟨Rt,0,none⟩) 2 2:Value)]) (enc:=gJ) (w:= .slice (some ⟨b55,0,none⟩) 1 1) [2] [0] [(b55,.cells ⟨([(.slice (some ⟨Rt,0,none⟩) 2 2:Value)].map gJ).flatten⟩ 22 (0,0))] (hJ.2.1) (fun s _ hZ=>bS [(.slice (some ⟨Rt,0,none⟩) 2 2:Value)] (hZ _ (.head _)) (by intro p hp;rfl)) (by intro p hp;rw[List.mem_singleton] at hp;subst hp;exact ai rfl) (by simp only[List.length_cons,List.length_nil];omega) (fun v56 L56 qH=>?_)
    obtain⟨Ow,Ou,Uc⟩:=qH.form
    subst Uc
    refine zD 3<|ja ((j:Int)+1) (by omega)<|zD 2<|Km mg (⟨j+1,(.slice Ow ((es++[(.slice (some ⟨Rt,0,none⟩) 2 2:Value)])).length Ou),L56,(es++[(.slice (some ⟨Rt,0,none⟩) 2 2:Value)]),Z++[(Rt,.cells ⟨[zI (i:Int),zI (j:Int)]⟩ 3 (0,0))]⟩) ⟨⟨by dsimp only;omega,by dsimp only;rw[Wy (of_decide_eq_true (by assumption)),←List.append_assoc];simp only[List.length_append,List.length_cons,List.length_nil] at*;omega⟩,qH,fun aF hk=>by dsimp only;rw[Wy (of_decide_eq_true (by assumption)),←List.append_assoc];exact(hJ.2.2 aF hk.left).snoc (bV (enc:=cT) (T:=3) [(i:Int),(j:Int)] (hk.right _ (.head _)) (fun _ _=>rfl))⟩ (by dsimp only;omega) [[0],[3,2],[4],[5],[6]] (Sub.refl _)
   refine zD 3<|ja ((j:Int)+1) (by omega)<|zD 2<|bF mg (⟨j+1,vO,LO,es,Z⟩) ⟨⟨by dsimp only;omega,by dsimp only;rw[Wz (of_decide_eq_false (by assumption))];exact hJ.1.2⟩,hJ.2.1,by dsimp only;rw[Wz (of_decide_eq_false (by assumption))];exact hJ.2.2⟩ (by dsimp only;omega) [0,1,2,3,4] (Sub.refl _)
  refine zD 3<|ja ((i:Int)+1) (by omega)<|zD 2<|bF bG (⟨i+1,vO,LO,es,Z⟩) ⟨⟨by dsimp only;omega,by have:=hJ.1.2;rw[show j=K.after.length by omega] at this;exact this⟩,hJ.2.1,by have:=hJ.2.2;rw[show j=K.after.length by omega] at this;exact this⟩ (by dsimp only;omega) [0,1,2,3,4] (Sub.refl _)
 refine zD 9<|aBs qC.a.a (.tuple ⟨[vO,zI 0]⟩) [0,1,4] LO Z (cd.trans pe) ⟨zs,_,_,hz,rfl,.inr ⟨vK.1,rfl,fun aF hk=>⟨es,hI.2.1.lR hk.left,by have:=hI.2.2 aF hk.right;rwa[show i=K.before.length by omega] at this⟩⟩⟩
structure EZ where
 f:Bool
 a:Int
 b:Int
 w:Int
def ais(m:iu)(n:Int)(i j:Nat):Int:=max (m.c i j) (n-m.c i j)
def Jk(m:iu)(n:Int)(i:Nat)(s:EZ):Nat→EZ
 |0=>s
 |j+1=>if ais m n i j <(Jk m n i s j).w then ⟨true,i,j,ais m n i j⟩ else Jk m n i s j
def ait(m:iu)(n:Int)(w:Nat):Nat→EZ
 |0=>⟨false,0,0,n⟩
 |i+1=>Jk m n i (ait m n w i) w
def anp(s:EZ):Int×Int×Int×Int:=bif s.f then (s.a,s.b,s.w,0) else (0,0,0,11)
theorem awt{m:iu}{s:EZ}{f:Bool}{a w:Int}(h:(⟨f,a,b,w⟩:EZ)=Jk m n i s j)(h2:ais m n i j <w):(⟨true,i,j,ais m n i j⟩:EZ)=Jk m n i s (j+1):=by rw[Jk,←h,if_pos h2]
theorem awu{m:iu}{s:EZ}{f:Bool}{a w:Int}(h:(⟨f,a,b,w⟩:EZ)=Jk m n i s j)(h2:¬ais m n i j <w):(⟨f,a,b,w⟩:EZ)=Jk m n i s (j+1):=by rw[Jk,←h,if_neg h2]
theorem asV{rows:List bP}{ro:Nat→Option Obj}(hK:gF ro l K)(hV:gh K)(hR:rows.length≤2)(hB:lB ro l K rows)(hCt:tK):EW zT 43 [.agg ⟨l⟩] ro [] (fun r Y=>∃zs v e,zs.Perm (ep K (cb K) (dA K.gone K.new K.af) rows)∧r= .tuple ⟨[v,zI e]⟩∧((zs=[]∧v= zS∧e=9∧Y=[])∨(zs≠[]∧e=0∧∀aF,Knows aF Y→LL aF v (yg (az zs) ((zs.length:Nat):Int) K.after.length K.before.length)))):=by
 obtain⟨v0,v1,v3,v4,v5,v6,v7,vb,fa,fc,hv,rfl,_⟩:=id hK
 refine Ep au [] [] bu fun fr=>zD 2<|jn fun b1=>jd 6 [0]<|Fg (vs:=[.agg ⟨[v0,v1,.slice fa 0 fc,v3,v4,v5,v6,v7,zI K.gone,zI K.new,zI K.af,vb]⟩,.func (.func 80) ⟨[]⟩ ⟨[]⟩]) [] (fun _ _ h=>h) (aly hK hV hR hB hCt) ?_
 rintro _ Y5 ⟨zs,v5,e5,hz,rfl,hcs⟩
 refine zD 6<|N4 qC (.tuple ⟨[v5,zI e5]⟩) [0,2] Y5 (Sub.refl _) ⟨zs,v5,e5,hz,rfl,hcs⟩
theorem aPg{rows:List bP}{ro:Nat→Option Obj}(hK:gF ro l K)(hV:gh K)(hR:rows.length≤2)(hB:lB ro l K rows)(hCt:tK):EW zT 15 [.agg ⟨l⟩] ro [] (fun r Y=>∃zs a b w e,zs.Perm (ep K (cb K) (dA K.gone K.new K.af) rows)∧Y=[]∧r= .tuple ⟨[zI a,zI b,zI w,zI e]⟩∧((zs=[]∧a=0∧b=0∧w=0∧e=9)∨(zs≠[]∧(a,b,w,e)=anp (ait (az zs) ((zs.length:Nat):Int) K.after.length K.before.length)))):=by
 obtain⟨v0,v1,v3,v4,v5,v6,v7,vb,fa,fc,hv,rfl,_⟩:=id hK
 refine Ep au [] [] bu fun fr=>zD 2<|jn fun b1=>jd 8 [0]<|alI (vs:=[.agg ⟨[v0,v1,.slice fa 0 fc,v3,v4,v5,v6,v7,zI K.gone,zI K.new,zI K.af,vb]⟩]) [] (fun _ _ h=>h) (WZ hK hV hR hB) ?_
 rintro _ aB Y14 cd ⟨f14,zs,v14,Nq,rfl,Jc,hz,T1,he⟩
 have aeT:∀x∈zs,(-4≤x.gone∧x.gone≤4)∧(-4≤x.new∧x.new≤4)∧(0≤x.af∧x.af≤4):=fun x hx=>by obtain⟨i,r,p,_,_,rfl,_⟩:=nA (hz.mem_iff.1 hx);exact qg hV r i p
 have hzl:zs.length≤1250:=by rw[hz.length_eq];exact qW hV _ _ hR
 have hpr:∀x∈zs,∀q,0≤pI x q∧pI x q≤4:=fun x hx=>by obtain⟨i,r,p,_,hp,rfl,_⟩:=nA (hz.mem_iff.1 hx);exact Mx ((kO hV _).2 p hp)
 obtain⟨d0,d1,d2,d3,d4,d5,d6,d7,d8,d9,dh,hf,qj,nN,hr,CI,Hf,I8,bO⟩:=id Jc
 obtain⟨kV,IQ,IN,kz,rfl,IP,Ei,Eh⟩:=CI
 obtain⟨kX,IU,IS,kA,rfl,IT,Ek,Ej⟩:=Hf
 have Fj:=hV.before.1
 have Ik:=hV.after.1
 refine zD 7<|jf [0] Y14 (fun ro4 pe Xq=>?_)
 have hZ1:=T1.lR Xq
 obtain⟨vo,Tb,S9,s9,rfl,Ta,Mf,Me⟩:=hZ1
 refine zD 7<|js 20 (!decide (Nq=0)) (fun h5=>?_) (fun h5=>?_)
 ·
  replace h5:=of_decide_eq_false (by simpa using h5)
  have vK:zs=[]∧Nq=9:=by rcases he with h| ⟨_,h⟩;exact h;omega
  refine zD 10<|N4 qC.a.a (.tuple ⟨[zI 0,zI 0,zI 0,zI Nq]⟩) [1] [] (cd.trans pe) ⟨zs,_,_,_,_,hz,rfl,rfl,.inl ⟨vK.1,rfl,rfl,rfl,vK.2⟩⟩
 replace h5:=of_decide_eq_true (by simpa using h5)
 have vK:zs≠[]∧Nq=0:=by rcases he with ⟨_,h⟩|h;omega;exact h
 refine zD 5<|jc (vs:=[.slice vo zs.length s9]) [] (hCt (show bE _ _ _ _ _ from ⟨vo,Tb,S9,s9,rfl,Ta,Mf,Me⟩) (by omega) hpr) ?_
 rintro _ _ ⟨rfl,rfl⟩
 refine jg 0 []<|jn fun b8=>jd 16 [0]<|jl (b:=f14) (off:=0) (m:=13) (vs:=[d0,d1,d2,d3,d4,d5,.slice kV K.before.length kz,.slice kX K.after.length kA,zI K.gone,zI K.new,zI K.af,d8,d9]) 6 ⟨_,_,_,.inl (pe _ _ hf),rfl⟩<|zD 4<|eO [1,1,1,1,1,0,1,0,0] [] (fun(zz:Nat×Bool×Int×Int×Int)=>[(2,zI zz.2.2.1),(3,zI zz.2.2.2.1),(4,zI zz.2.2.2.2),(5,zI Nq),(6,zP f14),(7,.slice vo zs.length s9),(8,zP b8),(9,.bool zz.2.1),(31,zI (K.before.length:Int)),(32,zI (zz.1:Int))]) (fun(zz:Nat×Bool×Int×Int×Int)=>[.b b8 (.cells ⟨[zI ((az zs).c 0 0),zI ((az zs).c 0 1),zI ((az zs).c 0 2),zI ((az zs).c 0 3),zI ((az zs).c 1 0),zI ((az zs).c 1 1),zI ((az zs).c 1 2),zI ((az zs).c 1 3),zI ((az zs).c 2 0),zI ((az zs).c 2 1),zI ((az zs).c 2 2),zI ((az zs).c 2 3),zI ((az zs).c 3 0),zI ((az zs).c 3 1),zI ((az zs).c 3 2),zI ((az zs).c 3 3)]⟩ 112 (0,0)),.b b1 (.cells ⟨[v0,v1,.slice fa 0 fc,v3,v4,v5,v6,v7,zI K.gone,zI K.new,zI K.af,vb]⟩ 38 (0,0)),.l fr]) (fun(zz:Nat×Bool×Int×Int×Int)=>zz.1≤K.before.length∧(⟨zz.2.1,zz.2.2.1,zz.2.2.2.1,zz.2.2.2.2⟩:EZ)=(ait (az zs) ((zs.length:Nat):Int) K.after.length zz.1)) (fun(zz:Nat×Bool×Int×Int×Int)=>K.before.length-zz.1) (⟨0,false,0,0,((zs.length:Nat):Int)⟩) ⟨by dsimp only;omega,rfl⟩ [0,1,2] ?_
 rintro⟨i,qf,qa,qb,qw⟩ hI K1 bG rest
 dsimp only at hI
 refine zD 5<|zJ 33 ((i:Int) <(K.before.length:Int)) (fun h6=>?_) fun h6=>?_
 ·
  refine zD 15<|jl (b:=f14) (off:=0) (m:=13) (vs:=[d0,d1,d2,d3,d4,d5,.slice kV K.before.length kz,.slice kX K.after.length kA,zI K.gone,zI K.new,zI K.af,d8,d9]) 7 ⟨_,_,_,.inl (pe _ _ hf),rfl⟩<|zD 4<|eO [1,1,1,1,1,0,1,0,0,1,1,0,0,1,1,0,0] [K1] (fun(zz:Nat×Bool×Int×Int×Int)=>[(2,zI zz.2.2.1),(3,zI zz.2.2.2.1),(4,zI zz.2.2.2.2),(5,zI Nq),(6,zP f14),(7,.slice vo zs.length s9),(8,zP b8),(9,.bool zz.2.1),(10,zI (i:Int)),(31,zI (K.before.length:Int)),(32,zI (i:Int)),(40,zI (K.after.length:Int)),(41,zI (zz.1:Int))]) (fun(zz:Nat×Bool×Int×Int×Int)=>[.b b8 (.cells ⟨[zI ((az zs).c 0 0),zI ((az zs).c 0 1),zI ((az zs).c 0 2),zI ((az zs).c 0 3),zI ((az zs).c 1 0),zI ((az zs).c 1 1),zI ((az zs).c 1 2),zI ((az zs).c 1 3),zI ((az zs).c 2 0),zI ((az zs).c 2 1),zI ((az zs).c 2 2),zI ((az zs).c 2 3),zI ((az zs).c 3 0),zI ((az zs).c 3 1),zI ((az zs).c 3 2),zI ((az zs).c 3 3)]⟩ 112 (0,0)),.b b1 (.cells ⟨[v0,v1,.slice fa 0 fc,v3,v4,v5,v6,v7,zI K.gone,zI K.new,zI K.af,vb]⟩ 38 (0,0)),.l fr]) (fun(zz:Nat×Bool×Int×Int×Int)=>zz.1≤K.after.length∧(⟨zz.2.1,zz.2.2.1,zz.2.2.2.1,zz.2.2.2.2⟩:EZ)=(Jk (az zs) ((zs.length:Nat):Int) i (ait (az zs) ((zs.length:Nat):Int) K.after.length i) zz.1)) (fun(zz:Nat×Bool×Int×Int×Int)=>K.after.length-zz.1) (⟨0,qf,qa,qb,qw⟩) ⟨by dsimp only;omega,hI.2⟩ [0,1,2] ?_
  rintro⟨j,qf,qa,qb,qw⟩ hJ K2 mg rest
  dsimp only at hJ
  refine zD 5<|zJ 42 ((j:Int) <(K.after.length:Int)) (fun h7=>?_) fun h7=>?_
  ·
   refine zD 10 ?_
   have iZ:=Nv zs i j
   refine zD 3<|Ig (b:=b8) (off:=0) (len:=4) (sz:=4) (i:Int) (by omega)<|Ig (b:=b8) (off:=0+(i:Int).toNat*4) (len:=4) (sz:=1) (j:Int) (by omega)<|px (b:=b8) (off:=0+(i:Int).toNat*4+(j:Int).toNat*1) (m:=1) (vs:=[zI ((az zs).c i j)]) 0 [0] [(b8,.cells ⟨[zI ((az zs).c 0 0),zI ((az zs).c 0 1),zI ((az zs).c 0 2),zI ((az zs).c 0 3),zI ((az zs).c 1 0),zI ((az zs).c 1 1),zI ((az zs).c 1 2),zI ((az zs).c 1 3),zI ((az zs).c 2 0),zI ((az zs).c 2 1),zI ((az zs).c 2 2),zI ((az zs).c 2 3),zI ((az zs).c 3 0),zI ((az zs).c 3 1),zI ((az zs).c 3 2),zI ((az zs).c 3 3)]⟩ 112 (0,0))] (fun s _ hZ=>qu (hZ _ (.head _)) (AP (m:=az zs) (by omega) (by omega)))<|zD 4<|Ig (b:=b8) (off:=0) (len:=4) (sz:=4) (i:Int) (by omega)<|Ig (b:=b8) (off:=0+(i:Int).toNat*4) (len:=4) (sz:=1) (j:Int) (by omega)<|px (b:=b8) (off:=0+(i:Int).toNat*4+(j:Int).toNat*1) (m:=1) (vs:=[zI ((az zs).c i j)]) 0 [0] [(b8,.cells ⟨[zI ((az zs).c 0 0),zI ((az zs).c 0 1),zI ((az zs).c 0 2),zI ((az zs).c 0 3),zI ((az zs).c 1 0),zI ((az zs).c 1 1),zI ((az zs).c 1 2),zI ((az zs).c 1 3),zI ((az zs).c 2 0),zI ((az zs).c 2 1),zI ((az zs).c 2 2),zI ((az zs).c 2 3),zI ((az zs).c 3 0),zI ((az zs).c 3 1),zI ((az zs).c 3 2),zI ((az zs).c 3 3)]⟩ 112 (0,0))] (fun s _ hZ=>qu (hZ _ (.head _)) (AP (m:=az zs) (by omega) (by omega)))<|ja ((zs.length:Int)-((az zs).c i j)) (by omega)<|jmx (k:= .i64) (a:=((az zs).c i j)) (b:=((zs.length:Int)-((az zs).c i j)))<|zD 8<|zJ 60 ((max ((az zs).c i j) ((zs.length:Int)-((az zs).c i j))) <qw) (fun h8=>?_) fun h8=>?_
   ·
    refine zD 11<|ja ((j:Int)+1) (by omega)<|zD 2<|bF mg (⟨j+1,true,(i:Int),(j:Int),(max ((az zs).c i j) ((zs.length:Int)-((az zs).c i j)))⟩) ⟨by dsimp only;omega,awt hJ.2 (by assumption)⟩ (by dsimp only;omega) [0,1,2] (Sub.refl _)
   refine zD 3<|ja ((j:Int)+1) (by omega)<|zD 2<|bF mg (⟨j+1,qf,qa,qb,qw⟩) ⟨by dsimp only;omega,awu hJ.2 (by assumption)⟩ (by dsimp only;omega) [0,1,2] (Sub.refl _)
  refine zD 3<|ja ((i:Int)+1) (by omega)<|zD 2<|bF bG (⟨i+1,qf,qa,qb,qw⟩) ⟨by dsimp only;omega,by have:=hJ.2;rw[show j=K.after.length by omega] at this;exact this⟩ (by dsimp only;omega) [0,1,2] (Sub.refl _)
 refine zD 8<|js 67 (!qf) (fun h9=>?_) (fun h9=>?_)
 ·
  try simp only[zB] at h9
  refine zD 9<|N4 qC.a.a (.tuple ⟨[zI 0,zI 0,zI 0,zI 11]⟩) [2] [] (cd.trans pe) ⟨zs,_,_,_,_,hz,rfl,rfl,.inr ⟨vK.1,by have:=hI.2;rw[show i=K.before.length by omega] at this;rw[←this];simp only[anp];cases qf<;>first|rfl|contradiction|simp_all⟩⟩
 try simp only[zB] at h9
 refine zD 13<|N4 qC.a.a (.tuple ⟨[zI qa,zI qb,zI qw,zI 0]⟩) [2] [] (cd.trans pe) ⟨zs,_,_,_,_,hz,rfl,rfl,.inr ⟨vK.1,by have:=hI.2;rw[show i=K.before.length by omega] at this;rw[←this];simp only[anp];cases qf<;>first|rfl|contradiction|simp_all⟩⟩
def IC:Value→Int
 | .int _ n=>n
 |_=>0
def Sz(f:P4→Int)(F:List (P4×Value)):Int:=(F.map fun x=>f x.1*IC x.2).sum
def pk(x:aw):P4:=(x.w0,x.w1,x.w2,x.w3)
def ace(f:P4→Int)(zs:List aw):Int:=(zs.map fun x=>f (pk x)).sum
structure CF(F:List (P4×Value))(zs:List aw):Prop where
 sum:∀f,Sz f F=ace f zs
 val:∀x∈F,∃n,x.2= zI n∧0≤n∧n≤zs.length
 key:∀x∈F,∃z∈zs,x.1=pk z
theorem CF.nil:CF [] []:=⟨fun _=>rfl,by simp,by simp⟩
theorem FT(g:κ×Value→Int):∀ {F:List (κ×Value)} {i:Nat} {k:κ} {u v:Value},F[i]?=some (k,u)→((tT k v F i).map g).sum=(F.map g).sum-g (k,u)+g (k,v)
 | [],_,_,_,_,h=>by simp at h
 |x::F,0,k,u,v,h=>by simp at h;subst h;simp only[tT,List.map_cons,List.sum_cons];omega
 |x::F,i+1,k,u,v,h=>by
  simp at h
  have:=FT g (v:=v) h
  simp only[tT,List.map_cons,List.sum_cons];omega
theorem wz:∀ {F:List (κ×Value)} {i:Nat} {k:κ} {v:Value} {x:κ×Value},x∈tT k v F i→x=(k,v)∨x∈F
 | [],_,_,_,_,h=>by cases h
 |y::F,0,k,v,x,h=>by
  rcases List.mem_cons.1 h with h|h
  ·exact .inl h
  exact .inr (List.mem_cons_of_mem _ h)
 |y::F,i+1,k,v,x,h=>by
  rcases List.mem_cons.1 h with h|h
  ·exact .inr (by rw[h];exact List.mem_cons_self)
  exact(wz h).imp id (List.mem_cons_of_mem _)
theorem CF.look{F:List (P4×Value)}{zs:List aw}(h:CF F zs)(k:P4):∃n,PX (zI 0) false k F= zI n∧0≤n∧n≤zs.length:=by
 simp only[PX,lkM]
 cases hf:sM k F 0 with
 |none=>exact⟨0,rfl,by omega,by omega⟩
 |some u=>
  obtain⟨j,u⟩:=u
  have:=(qO hf).2
  exact h.val _ (List.mem_of_getElem? this)
theorem CF.upd{F F1:List (P4×Value)}{zs:List aw}{x:aw}(h:CF F zs)(h1:((∃u,sM (pk x) F 0=some u)∧F1=F)∨(sM (pk x) F 0=none∧F1=F++[(pk x,zI 0)]))(hl:PX (zI 0) false (pk x) F= zI n)(hn:0≤n∧n≤zs.length):CF (mV (pk x) (zI (n+1)) F1) (zs++[x]):=by
 have hz (f:P4→Int):ace f (zs++[x])=ace f zs+f (pk x):=by simp[ace]
 rcases h1 with ⟨⟨⟨j,u⟩,hf⟩,rfl⟩| ⟨hf,rfl⟩
 ·have hu:=qO hf
  simp only[Nat.sub_zero] at hu
  have q5:u= zI n:=by simpa [PX,lkM,hf] using hl
  subst q5
  simp only[mV,hf]
  refine⟨fun f=>?_,fun y hy=>?_,fun y hy=>?_⟩
  ·rw[hz,←h.sum,Sz,FT _ hu.2,Sz]
   simp only[IC,Int.mul_add,Int.mul_one];omega
  ·rcases wz hy with rfl|hy
   ·exact⟨n+1,rfl,by omega,by simp;omega⟩
   obtain⟨m,h1,h2⟩:=h.val _ hy
   exact⟨m,h1,by omega,by simp;omega⟩
  rcases wz hy with rfl|hy
  ·exact⟨x,by simp,rfl⟩
  obtain⟨z,h1,h2⟩:=h.key _ hy
  exact⟨z,by simp[h1],h2⟩
 have q5:n=0:=by
  have:(Value.int .i64 0)= zI n:=by simpa [PX,lkM,hf] using hl
  cases this;rfl
 subst q5
 have hs:mV (pk x) (zI (0+1)) (F++[(pk x,zI 0)])=tT (pk x) (zI (0+1)) (F++[(pk x,zI 0)]) (0+F.length):=by
  simp only[mV,Bc (v:= zI 0) hf]
 have hg:(F++[(pk x,Value.int .i64 0)])[0+F.length]?=some (pk x,zI 0):=by simp
 rw[hs]
 refine⟨fun f=>?_,fun y hy=>?_,fun y hy=>?_⟩
 ·rw[hz,←h.sum,Sz,FT _ hg,Sz]
  simp[IC]
 ·rcases wz hy with rfl|hy
  ·exact⟨0+1,rfl,by omega,by simp;omega⟩
  rcases List.mem_append.1 hy with hy|hy
  ·obtain⟨m,h1,h2⟩:=h.val _ hy
   exact⟨m,h1,by omega,by simp;omega⟩
  rw[List.mem_singleton] at hy;subst hy
  exact⟨0,rfl,by omega,by omega⟩
 rcases wz hy with rfl|hy
 ·exact⟨x,by simp,rfl⟩
 rcases List.mem_append.1 hy with hy|hy
 ·obtain⟨z,h1,h2⟩:=h.key _ hy
  exact⟨z,by simp[h1],h2⟩
 rw[List.mem_singleton] at hy;subst hy
 exact⟨x,by simp,rfl⟩
def fV(i j:Nat):Value→Int
 | .agg ⟨l⟩=>(match l[i]? with
  |some (.int _ n)=>if n=(j:Int)+1 then 1 else 0
  |_=>0)
 |_=>0
def sY(i j:Nat)(l:List MapEntry):Int:=(l.map fun e=>fV i j e.key*IC e.val).sum
theorem acf{F:List (P4×Value)}{es:Array MapEntry}(h:tJ Ie F es ck)(i j:Nat):sY i j es.toList=Sz (fun k=>fV i j (Ie k)) F:=by
 have h1:=congrArg (List.map fun p:Value×Value=>fV i j p.1*IC p.2) h.1
 simp only[List.map_map] at h1
 unfold sY Sz
 exact congrArg List.sum h1
theorem OP(i j:Nat):∀ {l:List MapEntry} {e:MapEntry},(l.map (·.born)).Nodup→e∈l→sY i j l=fV i j e.key*IC e.val+sY i j (l.filter fun x=> !decide (x.born=e.born))
 | [],_,_,h=>by cases h
 |x::l,e,hn,h=>by
  simp only[List.map_cons,List.nodup_cons] at hn
  rcases List.mem_cons.1 h with rfl|h
  ·have:l.filter (fun y=> !decide (y.born=e.born))=l:=by
    refine List.filter_eq_self.2 fun y hy=>?_
    have:y.born≠e.born:=fun h=>hn.1 (h▸List.mem_map_of_mem hy)
    simp[this]
   rw[List.filter_cons_of_neg (by simp),this];rfl
  have eB:x.born≠e.born:=fun k=>hn.1 (k▸List.mem_map_of_mem h)
  rw[List.filter_cons_of_pos (by simp[eB])]
  have:=OP i j hn.2 h
  simp only[sY,List.map_cons,List.sum_cons] at this ⊢
  omega
theorem Tt(es:Array MapEntry)(seen:List Nat)(b:Nat):cG es (seen++[b])=(cG es seen).filter fun x=> !decide (x.born=b):=by
 simp only[cG,List.filter_filter]
 refine List.filter_congr fun x _=>?_
 simp only[List.contains_eq_mem,List.mem_append,List.mem_singleton,Bool.decide_or,Bool.not_or]
 rw[Bool.and_comm]
theorem JA{F:List (P4×Value)}{es:Array MapEntry}(h:tJ Ie F es ck){e:MapEntry}(he:e∈cG es seen)(i j:Nat):sY i j (cG es seen)=fV i j e.key*IC e.val+sY i j (cG es (seen++[e.born])):=by
 rw[Tt]
 exact OP i j ((List.filter_sublist.map _).nodup h.2.1) he
theorem apO(i j:Nat)(v:Value):fV i j v=0∨fV i j v=1:=by
 unfold fV
 split<;>try exact .inl rfl
 split<;>try exact .inl rfl
 split<;>simp
theorem OO{i j:Nat}:∀ {l:List MapEntry},(∀e∈l,0≤IC e.val)→0≤sY i j l
 | [],_=>Int.le_refl _
 |x::l,h=>by
  have h1:=OO (i:=i) (j:=j) (l:=l) fun e he=>h e (List.mem_cons_of_mem _ he)
  have h2:=h x List.mem_cons_self
  simp only[sY,List.map_cons,List.sum_cons] at h1 ⊢
  rcases apO i j x.key with h3|h3<;>rw[h3]<;>omega
theorem aj2{F:List (P4×Value)}{zs:List aw}(h:CF F zs){es:Array MapEntry}(hE:tJ Ie F es ck):∀e∈cG es seen,0≤IC e.val:=fun e he=>by
 have h1:e∈es.toList:=(List.mem_filter.1 he).1
 have h2:(e.key,e.val)∈es.toList.map (fun e=>(e.key,e.val)):=List.mem_map_of_mem (f:=fun e:MapEntry=>(e.key,e.val)) h1
 rw[hE.1] at h2
 obtain⟨y,h3,h4⟩:=List.mem_map.1 h2
 obtain⟨n,h5,h6,_⟩:=h.val _ h3
 simp only[Prod.mk.injEq] at h4
 rw[←h4.2,h5];exact h6
theorem XS(x:aw)(j:Nat)(hi:i <4):fV i j (Ie (pk x))=if pI x i=(j:Int)+1 then 1 else 0:=by
 rcases Ka hi with rfl|rfl|rfl|rfl<;>rfl
theorem VX{α:Type}(p:α→Prop)[DecidablePred p]:∀l:List α,(l.map fun x=>if p x then (1:Int) else 0).sum=((l.filter fun x=>decide (p x)).length:Int)
 | []=>rfl
 |x::l=>by
  rw[List.map_cons,List.sum_cons,VX p l]
  by_cases h:p x
  ·rw[if_pos h,List.filter_cons_of_pos (by simpa using h),List.length_cons];omega
  rw[if_neg h,List.filter_cons_of_neg (by simpa using h)];omega
theorem CF.total{F:List (P4×Value)}{zs:List aw}(h:CF F zs){es:Array MapEntry}(hE:tJ Ie F es ck)(j:Nat)(hi:i <4):sY i j (cG es [])=(az zs).c i j:=by
 rw[Cr,acf hE,h.sum,ace]
 simp only[XS _ j hi]
 exact VX (fun x=>pI x i=(j:Int)+1) zs
theorem abn{z:aw}(h:(z.w0==0&&(z.w1==0&&(z.w2==0&&(z.w3==0&&true))))=true)(i:Nat):pI z i=0:=by
 simp only[Bool.and_eq_true,beq_iff_eq] at h
 match i with
 |0=>exact h.1
 |1=>exact h.2.1
 |2=>exact h.2.2.1
 |_+3=>exact h.2.2.2.1
def EX(m:iu)(S T:Nat→Nat→Int):Prop:=∀i j,i <4→j <4→0≤m.c i j∧m.c i j+S i j=T i j
theorem EX.init{F:List (P4×Value)}{zs:List aw}(h:CF F zs){es:Array MapEntry}(hE:tJ Ie F es ck):EX ⟨fun _ _=>0⟩ (fun i j=>sY i j (cG es [])) (az zs).c:=fun i j hi _=>⟨Int.le_refl _,by show 0+sY i j (cG es [])=_;rw[h.total hE j hi];exact Int.zero_add _⟩
def ZJ(z:aw)(n:Int)(q:Nat)(R:Nat→Nat→Int):Nat→Nat→Int:=fun i j=>(if i <q then 0 else fV i j (Ie (pk z))*n)+R i j
theorem EX.zero{m:iu}{z:aw}{n:Int}{es:Array MapEntry}{ck:Nat}{F:List (P4×Value)}{T:Nat→Nat→Int}{seen:List Nat}{e:MapEntry}(hE:tJ Ie F es ck)(he:e∈cG es seen)(hk:e.key=Ie (pk z))(hz:∀i,pI z i=0)(h:EX m (fun i j=>sY i j (cG es seen)) T):EX m (fun i j=>sY i j (cG es (seen++[e.born]))) T:=fun i j hi hj=>by
 have h1:=h i j hi hj
 have h2:=JA hE he i j
 rw[hk,XS z j hi,if_neg (by rw[hz];omega),Int.zero_mul,Int.zero_add] at h2
 dsimp only at h1 ⊢
 rw[h2] at h1;exact h1
theorem EX.open_{m:iu}{z:aw}{es:Array MapEntry}{F:List (P4×Value)}{e:MapEntry}(hE:tJ Ie F es ck)(he:e∈cG es seen)(hk:e.key=Ie (pk z))(hv:e.val= zI n)(h:EX m (fun i j=>sY i j (cG es seen)) T):EX m (ZJ z n 0 fun i j=>sY i j (cG es (seen++[e.born]))) T:=fun i j hi hj=>by
 have h1:=h i j hi hj
 have h2:=JA hE he i j
 rw[hk,hv] at h2
 simp only[IC] at h2
 simp only[ZJ,if_neg (Nat.not_lt_zero i)]
 dsimp only at h1
 rw[h2] at h1;exact h1
theorem EX.close{m:iu}{z:aw}(h:EX m (ZJ z n 4 R) T):EX m R T:=fun i j hi hj=>by
 have h1:=h i j hi hj
 simp only[ZJ,if_pos hi,Int.zero_add] at h1
 exact h1
theorem EX.skip{m:iu}{z:aw}(h:EX m (ZJ z n q R) T)(hq:¬pI z q>0):EX m (ZJ z n (q+1) R) T:=fun i j hi hj=>by
 have h1:=h i j hi hj
 simp only[ZJ] at h1 ⊢
 by_cases e:i=q
 ·subst e
  rw[if_neg (Nat.lt_irrefl _),XS z j hi,if_neg (by omega),Int.zero_mul] at h1
  rw[if_pos (Nat.lt_succ_self _)];exact h1
 by_cases e2:i <q
 ·rw[if_pos e2] at h1;rw[if_pos (by omega)];exact h1
 rw[if_neg e2] at h1;rw[if_neg (by omega)];exact h1
theorem EX.add{m:iu}{z:aw}(h:EX m (ZJ z n q R) T)(hn:0≤n)(hq:pI z q>0)(hq4:q <4):EX (r5 m q (pI z q-1).toNat (m.c q (pI z q-1).toNat+n)) (ZJ z n (q+1) R) T:=fun i j hi hj=>by
 have h1:=h i j hi hj
 simp only[ZJ,r5] at h1 ⊢
 by_cases e:i=q
 ·subst e
  rw[if_neg (Nat.lt_irrefl _),XS z j hi] at h1
  rw[if_pos (Nat.lt_succ_self _)]
  by_cases e2:j=(pI z i-1).toNat
  ·rw[if_pos (by omega)] at h1
   rw[if_pos ⟨rfl,e2⟩,←e2];omega
  rw[if_neg (by omega)] at h1
  rw[if_neg (by omega)];omega
 rw[if_neg (c:=i=q∧j=(pI z q-1).toNat) (by omega)]
 by_cases e2:i <q
 ·rw[if_pos e2] at h1;rw[if_pos (by omega)];exact h1
 rw[if_neg e2] at h1;rw[if_neg (by omega)];exact h1
theorem EX.bound{m:iu}{z:aw}(h:EX m (ZJ z n q R) T)(hR:∀i j,0≤R i j)(hn:0≤n)(hi:i <4)(hj:j <4):0≤m.c i j∧m.c i j≤T i j:=by
 have h1:=h i j hi hj
 have h2:=hR i j
 simp only[ZJ] at h1
 split at h1
 ·omega
 rcases apO i j (Ie (pk z)) with h3|h3<;>rw[h3] at h1<;>omega
theorem EX.fin{m:iu}{zs:List aw}{es:Array MapEntry}(h:EX m (fun i j=>sY i j (cG es seen)) (az zs).c)(he:cG es seen=[]):C3 m=C3 (az zs):=by
 have k (i j:Nat) (hi:i <4) (hj:j <4):m.c i j=(az zs).c i j:=by
  have:=(h i j hi hj).2
  rw[he] at this
  simpa [sY] using this
 simp only[C3,k 0 0 (by decide) (by decide),k 0 1 (by decide) (by decide),k 0 2 (by decide) (by decide),k 0 3 (by decide) (by decide),k 1 0 (by decide) (by decide),k 1 1 (by decide) (by decide),k 1 2 (by decide) (by decide),k 1 3 (by decide) (by decide),k 2 0 (by decide) (by decide),k 2 1 (by decide) (by decide),k 2 2 (by decide) (by decide),k 2 3 (by decide) (by decide),k 3 0 (by decide) (by decide),k 3 1 (by decide) (by decide),k 3 2 (by decide) (by decide),k 3 3 (by decide) (by decide)]
theorem ar2{z:aw}(h:q <4):nth [zI z.w0,zI z.w1,zI z.w2,zI z.w3] ((q:Int).toNat*1)=some (zI (pI z q)):=by
 rcases Ka h with rfl|rfl|rfl|rfl<;>rfl
theorem adM{m:iu}{a:Nat}{j:Int}(h:a <4)(k:0≤j∧j <4):nth (C3 m) (0+(a:Int).toNat*4+j.toNat*1)=some (zI (m.c a j.toNat)):=by
 obtain⟨b,rfl⟩:=Int.eq_ofNat_of_zero_le k.1
 exact AP h (by omega)
theorem adL{m:iu}{a:Nat}{j v:Int}(h:a <4)(k:0≤j∧j <4):dI (C3 m) (0+(a:Int).toNat*4+j.toNat*1) [zI v]=C3 (r5 m a j.toNat v):=by
 obtain⟨b,rfl⟩:=Int.eq_ofNat_of_zero_le k.1
 exact ak9 h (by omega)
theorem adN{m:iu}{a:Nat}{j:Int}{v:Value}(h:a <4)(k:0≤j∧j <4):Nat.ble ((0+(a:Int).toNat*4+j.toNat*1)+[v].length) (C3 m).length=true:=by
 obtain⟨b,rfl⟩:=Int.eq_ofNat_of_zero_le k.1
 exact ala h (by omega)
theorem aUQ(z:aw):EqV zT 122 (v4 z.w0 z.w1 z.w2 z.w3) (v4 0 0 0 0) (z.w0==0&&(z.w1==0&&(z.w2==0&&(z.w3==0&&true)))):=No (aGP (dep:=9998) (nJ Tryz.typeInfo122 Tryz.underlying122 rfl rfl rfl rfl rfl rfl) ng _ _ _ _ _ _ _ _)
theorem aOY:oF zT 122:=by unfold oF;kernel_rfl
theorem PV{F F1:List (P4×Value)}{k:P4}(h1:((∃u,sM k F 0=some u)∧F1=F)∨(sM k F 0=none∧F1=F++[(k,zI 0)]))(hl:PX (zI 0) false k F= zI n):PX (zI 0) false k F1= zI n:=by
 rcases h1 with ⟨_,rfl⟩| ⟨hf,rfl⟩
 ·exact hl
 simp only[PX,lkM,Bc (v:= zI 0) hf]
 simpa [PX,lkM,hf] using hl
theorem aeu{v:Value}{zs:List aw}{ro:Nat→Option Obj}(hl:bE ro v 8 cR zs)(hn:zs.length≤100000)(hp:∀x∈zs,∀q,0≤pI x q∧pI x q≤4):eS zT 47 [v] ro [] (fun r Y=>r= .agg ⟨C3 (az zs)⟩∧Y=[]):=by
 obtain⟨fS,sj,si,fe,rfl,tY,mw,nj⟩:=hl
 refine bC au [] [] bu<|zD 2<|jn fun b2=>zD 3<|jmk Ie fun Ga L11 afy=>zD 10<|eO [1,1,0,1,0,0] [] (fun(zz:Nat×(List (P4×Value))×Cells)=>[(2,zP b2),(3,(.map (some Ga))),(12,.slice fS zs.length fe),(13,zI (zs.length:Int)),(14,zI (zz.1:Int))]) (fun(zz:Nat×(List (P4×Value))×Cells)=>[.l zz.2.2,.b b2 (.cells ⟨[zI 0,zI 0,zI 0,zI 0,zI 0,zI 0,zI 0,zI 0,zI 0,zI 0,zI 0,zI 0,zI 0,zI 0,zI 0,zI 0]⟩ 112 (0,0))]) (fun(zz:Nat×(List (P4×Value))×Cells)=>zz.1≤zs.length∧kD Ga Ie zz.2.1 zz.2.2∧CF zz.2.1 (zs.take zz.1)) (fun(zz:Nat×(List (P4×Value))×Cells)=>zs.length-zz.1) (⟨0,[],L11⟩) ⟨by dsimp only;omega,afy,CF.nil⟩ [0,1] ?_
 rintro⟨k,F,LM⟩ hI K1 bG rest
 dsimp only at hI
 refine zD 5<|zJ 15 ((k:Int) <(zs.length:Int)) (fun h1=>?_) fun h1=>?_
 ·
  refine zD 6 ?_
  obtain⟨BL,pz⟩:=zG zs k
  refine jb fe 8 mw pz<|jl 0 (nj _ _ pz)<|jn fun b5=>jd 2 [0] ?_
  obtain⟨nk,hlk,hnk⟩:=hI.2.2.look (pk BL)
  have RV:(zs.take k).length=k:=by rw[List.length_take];omega
  refine jd 4 [0]<|lJ [3,5] ⟨fun z2 t3 ri=>?_,fun z5 t6 QG=>?_,trivial⟩
  ·
   refine jlu (kv:=Ie) (F:=F) (r:=Ga) (K:=122) (pk BL) (zI 0) false [1] LM aef (fun s _ hZ=>hI.2.1.has hZ)<|ba ri [0,1,2]<|jw 3 (zI nk) hlk<|ja (nk+1) (by omega)<|aD 5 fun Sd Su Up=>jme (kv:=Ie) (F:=F) (r:=Ga) (L:=LM) 1 (pk BL) aef ng hI.2.1 fun Fm4 bm4 cm4 Lm4 bf4 hm4=>iB Up []<|aD 6 fun Ys YG Uo=>zD 1<|ba Uo [0,1,2]<|aD 7 fun FA FQ wJ=>jes 0 (zI (nk+1)) hm4 fun Lm7 hm7=>cw wJ<|zD 2<|ja ((k:Int)+1) (by omega)<|zD 2<|bF bG (⟨k+1,_,Lm7⟩) ⟨by dsimp only;omega,hm7,by dsimp only;rw[jU pz];exact hI.2.2.upd (by assumption) hlk hnk⟩ (by dsimp only;omega) [0,2] (Sub.refl _)
  refine jme (kv:=Ie) (F:=F) (r:=Ga) (L:=LM) 1 (pk BL) aef ng hI.2.1 fun Fm9 bm9 cm9 Lm9 aFZ hm9=>cw QG<|lJ [3,6] ⟨fun z11 t12 M5=>?_,fun z14 t15 QI=>?_,trivial⟩
  ·
   refine jlu (kv:=Ie) (F:=Fm9) (r:=Ga) (K:=122) (pk BL) (zI 0) false [0] Lm9 aef (fun s _ hZ=>hm9.own.has hZ)<|cw M5<|jw 3 (zI nk) (PV aFZ hlk)<|ja (nk+1) (by omega)<|aD 6 fun anR aok CM=>zD 1<|ba CM [0,1,2]<|aD 7 fun ax3 ay9 agx=>jes 0 (zI (nk+1)) hm9 fun aVQ aCJ=>cw agx<|zD 2<|ja ((k:Int)+1) (by omega)<|zD 2<|bF bG (⟨k+1,_,aVQ⟩) ⟨by dsimp only;omega,aCJ,by dsimp only;rw[jU pz];exact hI.2.2.upd (by assumption) hlk hnk⟩ (by dsimp only;omega) [0,2] (Sub.refl _)
  refine zD 1<|cw QI<|aD 3 fun ax2 ay8 agw=>jlu (kv:=Ie) (F:=Fm9) (r:=Ga) (K:=122) (pk BL) (zI 0) false [0] Lm9 aef (fun s _ hZ=>hm9.own.has hZ)<|cw agw<|jw 3 (zI nk) (PV aFZ hlk)<|ja (nk+1) (by omega)<|aD 7 fun ax1 ay7 Hj=>jes 0 (zI (nk+1)) hm9 fun aVP aub=>cw Hj<|zD 2<|ja ((k:Int)+1) (by omega)<|zD 2<|bF bG (⟨k+1,_,aVP⟩) ⟨by dsimp only;omega,aub,by dsimp only;rw[jU pz];exact hI.2.2.upd (by assumption) hlk hnk⟩ (by dsimp only;omega) [0,2] (Sub.refl _)
 refine zD 4<|jn fun b6=>jf [1] LM (fun bcg atB auw=>?_)
 have hCF:CF F zs:=by have:=hI.2.2;rwa[show k=zs.length by omega,List.take_length] at this
 obtain⟨BJ,Ix,rfl,hE1⟩:=hI.2.1
 refine zD 5<|jmR (auw _ (.head _)) fun r27=>jg 0 [.b r27 (uZ Ga Ix [])]<|zD 2<|eO [1,1,1,1,0,1,0,0] [] (fun(zz:(List Nat)×iu)=>[(2,zP b2),(6,zP b6),(27,zP r27)]) (fun(zz:(List Nat)×iu)=>[.b r27 (uZ Ga Ix zz.1),.b b6 (.cells ⟨[zI (zz.2.c 0 0),zI (zz.2.c 0 1),zI (zz.2.c 0 2),zI (zz.2.c 0 3),zI (zz.2.c 1 0),zI (zz.2.c 1 1),zI (zz.2.c 1 2),zI (zz.2.c 1 3),zI (zz.2.c 2 0),zI (zz.2.c 2 1),zI (zz.2.c 2 2),zI (zz.2.c 2 3),zI (zz.2.c 3 0),zI (zz.2.c 3 1),zI (zz.2.c 3 2),zI (zz.2.c 3 3)]⟩ 112 (0,0)),.b b2 (.cells ⟨[zI 0,zI 0,zI 0,zI 0,zI 0,zI 0,zI 0,zI 0,zI 0,zI 0,zI 0,zI 0,zI 0,zI 0,zI 0,zI 0]⟩ 112 (0,0))]) (fun(zz:(List Nat)×iu)=>EX zz.2 (fun i j=>sY i j (cG BJ zz.1)) (az zs).c) (fun(zz:(List Nat)×iu)=>(cG BJ zz.1).length) (⟨[],⟨fun _ _=>0⟩⟩) (EX.init hCF hE1) [0,1,2] ?_
 rintro⟨seen,m⟩ hI K21 amA rest
 dsimp only at hI
 refine zD 2<|jmN (it:=r27) (kv:=Ie) (seen:=seen) 0 (auw _ (.head _)) hE1 (fun k28 v28 e28 aC8 Z8 auu aBP=>?_) (fun atc=>?_)
 ·
  obtain⟨Gx,apg,aCA⟩:=hCF.val _ aC8
  obtain⟨lD,atc,hkz⟩:=hCF.key _ aC8
  dsimp only at apg hkz
  subst apg
  subst hkz
  have hpz:=hp lD atc
  have cH:=GG Z8
  refine jg 0 [.b r27 (uZ Ga Ix (seen++[e28.born]))]<|zD 8<|jmE (it:=r27) 0 (auw _ (.head _)) hE1 Z8 auu aBP<|jg 0 [.b r27 (uZ Ga Ix (seen++[e28.born]))]<|zD 2<|jn fun b7=>jd 8 [0,0]<|jeq aOY (aUQ lD)<|zD 1<|js 35 (lD.w0==0&&(lD.w1==0&&(lD.w2==0&&(lD.w3==0&&true)))) (fun h21=>?_) (fun h21=>?_)
  ·
   refine zD 2<|bF amA (⟨(seen++[e28.born]),m⟩) (hI.zero (n:=0) hE1 Z8 auu (abn (by assumption))) cH [1,2,3] (Sub.refl _)
  refine jd 8 [0]<|eO [1,1,1,1,0,1,0,0,1,1,0,1,1,1,0,0] [K21] (fun(zz:Nat×iu)=>[(2,zP b2),(6,zP b6),(8,zI Gx),(27,zP r27),(36,.agg ⟨[zI lD.w0,zI lD.w1,zI lD.w2,zI lD.w3]⟩),(37,zI (zz.1:Int))]) (fun(zz:Nat×iu)=>[.b r27 (uZ Ga Ix (seen++[e28.born])),.b b6 (.cells ⟨[zI (zz.2.c 0 0),zI (zz.2.c 0 1),zI (zz.2.c 0 2),zI (zz.2.c 0 3),zI (zz.2.c 1 0),zI (zz.2.c 1 1),zI (zz.2.c 1 2),zI (zz.2.c 1 3),zI (zz.2.c 2 0),zI (zz.2.c 2 1),zI (zz.2.c 2 2),zI (zz.2.c 2 3),zI (zz.2.c 3 0),zI (zz.2.c 3 1),zI (zz.2.c 3 2),zI (zz.2.c 3 3)]⟩ 112 (0,0)),.b b7 (.cells ⟨[zI lD.w0,zI lD.w1,zI lD.w2,zI lD.w3]⟩ 122 (0,0)),.b b2 (.cells ⟨[zI 0,zI 0,zI 0,zI 0,zI 0,zI 0,zI 0,zI 0,zI 0,zI 0,zI 0,zI 0,zI 0,zI 0,zI 0,zI 0]⟩ 112 (0,0))]) (fun(zz:Nat×iu)=>zz.1≤4∧EX zz.2 (ZJ lD Gx zz.1 (fun i j=>sY i j (cG BJ (seen++[e28.born])))) (az zs).c) (fun(zz:Nat×iu)=>4-zz.1) (⟨0,m⟩) ⟨by dsimp only;omega,hI.open_ hE1 Z8 auu aBP⟩ [1,2,0,3] ?_
  rintro⟨q,m⟩ hJ K22 aFT rest
  dsimp only at hJ
  refine zD 5<|zJ 38 ((q:Int) <4) (fun KA=>?_) fun KA=>?_
  ·
   refine zD 7<|jai (l:=[zI lD.w0,zI lD.w1,zI lD.w2,zI lD.w3]) (q:Int) 4 1 false (by omega) (v:= zI (pI lD q)) (show nth [_,_,_,_] _=_ from ar2 (by omega))<|zD 8<|zJ 42 ((pI lD q)>0) (fun Fu=>?_) fun Fu=>?_
   ·
    refine zD 4<|ja ((pI lD q)-1) (by have:=hpz q;omega) ?_
    refine Ig (b:=b6) (off:=0) (len:=4) (sz:=4) (q:Int) (by omega)<|Ig (b:=b6) (off:=0+(q:Int).toNat*4) (len:=4) (sz:=1) ((pI lD q)-1) (by have:=hpz q;omega) ?_
    refine px (b:=b6) (off:=0+(q:Int).toNat*4+((pI lD q)-1).toNat*1) (m:=1) (vs:=[zI (m.c q (pI lD q-1).toNat)]) 0 [1] [(b6,.cells ⟨[zI (m.c 0 0),zI (m.c 0 1),zI (m.c 0 2),zI (m.c 0 3),zI (m.c 1 0),zI (m.c 1 1),zI (m.c 1 2),zI (m.c 1 3),zI (m.c 2 0),zI (m.c 2 1),zI (m.c 2 2),zI (m.c 2 3),zI (m.c 3 0),zI (m.c 3 1),zI (m.c 3 2),zI (m.c 3 3)]⟩ 112 (0,0))] (fun s _ hZ=>qu (hZ _ (.head _)) (adM (m:=m) (by omega) (by have:=hpz q;omega))) ?_
    refine zD 1<|ja ((m.c q (pI lD q-1).toNat)+Gx) (by have h7:=hJ.2.bound (fun i j=>OO (aj2 hCF hE1)) aCA.1 (i:=q) (j:=(pI lD q-1).toNat) (by omega) (by have:=hpz q;omega);have h8:=Nv zs q (pI lD q-1).toNat;omega) ?_
    refine Ig (b:=b6) (off:=0) (len:=4) (sz:=4) (q:Int) (by omega)<|Ig (b:=b6) (off:=0+(q:Int).toNat*4) (len:=4) (sz:=1) ((pI lD q)-1) (by have:=hpz q;omega) ?_
    refine aD 10 fun axY ay4 M4=>yh 1 b6 (0+(q:Int).toNat*4+((pI lD q)-1).toNat*1) [zI (m.c 0 0),zI (m.c 0 1),zI (m.c 0 2),zI (m.c 0 3),zI (m.c 1 0),zI (m.c 1 1),zI (m.c 1 2),zI (m.c 1 3),zI (m.c 2 0),zI (m.c 2 1),zI (m.c 2 2),zI (m.c 2 3),zI (m.c 3 0),zI (m.c 3 1),zI (m.c 3 2),zI (m.c 3 3)] [zI ((m.c q (pI lD q-1).toNat)+Gx)] 112 (by intro v hv;rw[List.mem_singleton] at hv;subst hv;rfl) (adN (m:=m) (by omega) (by have:=hpz q;omega)) ?_
    refine jmw 0 [.b b6 (.cells ⟨[zI ((r5 m q (pI lD q-1).toNat (m.c q (pI lD q-1).toNat+Gx)).c 0 0),zI ((r5 m q (pI lD q-1).toNat (m.c q (pI lD q-1).toNat+Gx)).c 0 1),zI ((r5 m q (pI lD q-1).toNat (m.c q (pI lD q-1).toNat+Gx)).c 0 2),zI ((r5 m q (pI lD q-1).toNat (m.c q (pI lD q-1).toNat+Gx)).c 0 3),zI ((r5 m q (pI lD q-1).toNat (m.c q (pI lD q-1).toNat+Gx)).c 1 0),zI ((r5 m q (pI lD q-1).toNat (m.c q (pI lD q-1).toNat+Gx)).c 1 1),zI ((r5 m q (pI lD q-1).toNat (m.c q (pI lD q-1).toNat+Gx)).c 1 2),zI ((r5 m q (pI lD q-1).toNat (m.c q (pI lD q-1).toNat+Gx)).c 1 3),zI ((r5 m q (pI lD q-1).toNat (m.c q (pI lD q-1).toNat+Gx)).c 2 0),zI ((r5 m q (pI lD q-1).toNat (m.c q (pI lD q-1).toNat+Gx)).c 2 1),zI ((r5 m q (pI lD q-1).toNat (m.c q (pI lD q-1).toNat+Gx)).c 2 2),zI ((r5 m q (pI lD q-1).toNat (m.c q (pI lD q-1).toNat+Gx)).c 2 3),zI ((r5 m q (pI lD q-1).toNat (m.c q (pI lD q-1).toNat+Gx)).c 3 0),zI ((r5 m q (pI lD q-1).toNat (m.c q (pI lD q-1).toNat+Gx)).c 3 1),zI ((r5 m q (pI lD q-1).toNat (m.c q (pI lD q-1).toNat+Gx)).c 3 2),zI ((r5 m q (pI lD q-1).toNat (m.c q (pI lD q-1).toNat+Gx)).c 3 3)]⟩ 112 (0,0))] (L:=[(b6,.cells ⟨dI [zI (m.c 0 0),zI (m.c 0 1),zI (m.c 0 2),zI (m.c 0 3),zI (m.c 1 0),zI (m.c 1 1),zI (m.c 1 2),zI (m.c 1 3),zI (m.c 2 0),zI (m.c 2 1),zI (m.c 2 2),zI (m.c 2 3),zI (m.c 3 0),zI (m.c 3 1),zI (m.c 3 2),zI (m.c 3 3)] (0+(q:Int).toNat*4+((pI lD q)-1).toNat*1) [zI ((m.c q (pI lD q-1).toNat)+Gx)]⟩ 112 (0,0))]) (by rw[adL (m:=m) (by omega) (by have:=hpz q;omega)];rfl) ?_
    refine iB M4 []<|zD 2<|ja ((q:Int)+1) (by omega)<|zD 2<|bF aFT (⟨q+1,(r5 m q (pI lD q-1).toNat (m.c q (pI lD q-1).toNat+Gx))⟩) ⟨by dsimp only;omega,hJ.2.add aCA.1 (by assumption) (by omega)⟩ (by dsimp only;omega) [1,0,2,3] (Sub.refl _)
   refine zD 3<|ja ((q:Int)+1) (by omega)<|zD 2<|bF aFT (⟨q+1,m⟩) ⟨by dsimp only;omega,hJ.2.skip (by assumption)⟩ (by dsimp only;omega) [0,1,2,3] (Sub.refl _)
  refine zD 2<|bF amA (⟨(seen++[e28.born]),m⟩) (EX.close (z:=lD) (n:=Gx) (by have:=hJ.2;rwa[show q=4 by omega] at this)) cH [0,1,3] (Sub.refl _)
 refine jg 0 [.b r27 (uZ Ga Ix seen)]<|jd 11 [1,2]<|aH q0.a (.agg ⟨[zI (m.c 0 0),zI (m.c 0 1),zI (m.c 0 2),zI (m.c 0 3),zI (m.c 1 0),zI (m.c 1 1),zI (m.c 1 2),zI (m.c 1 3),zI (m.c 2 0),zI (m.c 2 1),zI (m.c 2 2),zI (m.c 2 3),zI (m.c 3 0),zI (m.c 3 1),zI (m.c 3 2),zI (m.c 3 3)]⟩) [2] [] [] atB ⟨_,_,rfl,rfl,by rw[←hI.fin atc],rfl⟩
theorem Bn:tK:=fun hl hn hp=>aeu hl hn hp
theorem Ba:∀(l:List Int) (a:Int),l.foldl min a=a∨l.foldl min a∈l
 | [],_=> .inl rfl
 |y::l,a=>by
  simp only[List.foldl_cons]
  rcases Ba l (min a y) with h|h
  ·rw[h]
   rcases(by omega:min a y=a∨min a y=y) with e|e
   ·exact .inl e
   rw[e];exact .inr List.mem_cons_self
  exact .inr (List.mem_cons_of_mem _ h)
theorem PQ:∀ {l:List Int},l≠[]→vq l∈l
 | [],h=>absurd rfl h
 |y::l,_=>by
  show l.foldl min y∈_
  rcases Ba l y with h|h
  ·rw[h];exact List.mem_cons_self
  exact List.mem_cons_of_mem _ h
theorem Cj{l m:List Int}(h:l.Perm m)(hl:l≠[]):vq l=vq m:=by
 have h1:=Mt (h.mem_iff.1 (PQ hl))
 have h2:=Mt (h.mem_iff.2 (PQ (fun e=>hl (by rw[e] at h;exact h.eq_nil))))
 omega
theorem Hr:∀(l:List Int) (a:Int),a≤l.foldl max a∧∀x∈l,x≤l.foldl max a
 | [],a=>⟨Int.le_refl _,fun _ h=>(by cases h)⟩
 |y::l,a=>by
  obtain⟨h1,h2⟩:=Hr l (max a y)
  refine⟨by simp only[List.foldl_cons];omega,fun x hx=>?_⟩
  rcases List.mem_cons.1 hx with rfl|hx
  ·simp only[List.foldl_cons];omega
  exact h2 x hx
theorem Bb:∀(l:List Int) (a:Int),l.foldl max a=a∨l.foldl max a∈l
 | [],_=> .inl rfl
 |y::l,a=>by
  simp only[List.foldl_cons]
  rcases Bb l (max a y) with h|h
  ·rw[h]
   rcases(by omega:max a y=a∨max a y=y) with e|e
   ·exact .inl e
   rw[e];exact .inr List.mem_cons_self
  exact .inr (List.mem_cons_of_mem _ h)
theorem WO{l:List Int}{x:Int}(h:x∈l):x≤Cn l:=by
 cases l with
 |nil=>cases h
 |cons y l=>
  rcases List.mem_cons.1 h with rfl|h
  ·exact(Hr l _).1
  exact(Hr l _).2 x h
theorem PS:∀ {l:List Int},l≠[]→Cn l∈l
 | [],h=>absurd rfl h
 |y::l,_=>by
  show l.foldl max y∈_
  rcases Bb l y with h|h
  ·rw[h];exact List.mem_cons_self
  exact List.mem_cons_of_mem _ h
theorem J9{l m:List Int}(h:l.Perm m)(hl:l≠[]):Cn l=Cn m:=by
 have h1:=WO (h.mem_iff.1 (PS hl))
 have h2:=WO (h.mem_iff.2 (PS (fun e=>hl (by rw[e] at h;exact h.eq_nil))))
 omega
theorem AR{α β:Type}{f:α→β}{l:List α}(h:l≠[]):l.map f≠[]:=fun e=>h (List.map_eq_nil_iff.1 e)
abbrev fsT:List ez:=[⟨2,1,true⟩,⟨0,1,true⟩]
theorem cC(h:0≤n∧n≤4):mH (aT n):=apU (fs:=[]) h (by decide) (by simp) .nil
theorem cV:gh (aT n):=apT (fs:=[]) (by decide) (by simp)
theorem cCT:mH (DT 2 fsT):=apU (by decide) (by decide) (by decide) (by decide)
theorem cVT:gh (DT 2 fsT):=apT (by decide) (by decide)
theorem rT:bY (aT 2)=4:=by kernel_rfl
theorem rL:vq ((ep (aT 1) (cb (aT 1)) (fun _=>true) (gp (aT 1))).map FU)=2:=by kernel_rfl
theorem rLn:(ep (aT 1) (cb (aT 1)) (fun _=>true) (gp (aT 1))).length=0→False:=by
 have e:Nat.beq (ep (aT 1) (cb (aT 1)) (fun _=>true) (gp (aT 1))).length 0=false:=by kernel_rfl
 intro h;rw[h] at e;cases e
theorem r1n:(ep (aT 1) (cb (aT 1)) (dA (aT 1).gone (aT 1).new (aT 1).af) (gp (aT 1))).length=0→False:=by
 have e:Nat.beq (ep (aT 1) (cb (aT 1)) (dA (aT 1).gone (aT 1).new (aT 1).af) (gp (aT 1))).length 0=false:=by kernel_rfl
 intro h;rw[h] at e;cases e
theorem r2n:(ep (aT 2) (cb (aT 2)) (dA (aT 2).gone (aT 2).new (aT 2).af) (gp (aT 2))).length=0→False:=by
 have e:Nat.beq (ep (aT 2) (cb (aT 2)) (dA (aT 2).gone (aT 2).new (aT 2).af) (gp (aT 2))).length 0=false:=by kernel_rfl
 intro h;rw[h] at e;cases e
theorem rM1:vq ((ep (aT 2) (cb (aT 2)) (dA (aT 2).gone (aT 2).new (aT 2).af) (gp (aT 2))).map fun x=>x.af)=0:=by kernel_rfl
theorem rM2:Cn ((ep (aT 2) (cb (aT 2)) (dA (aT 2).gone (aT 2).new (aT 2).af) (gp (aT 2))).map fun x=>x.af)=2:=by kernel_rfl
theorem rU:yg (az (ep (aT 1) (cb (aT 1)) (dA (aT 1).gone (aT 1).new (aT 1).af) (gp (aT 1)))) (((ep (aT 1) (cb (aT 1)) (dA (aT 1).gone (aT 1).new (aT 1).af) (gp (aT 1))).length:Nat):Int) (aT 1).after.length (aT 1).before.length=[[0,0],[2,1]]:=by kernel_rfl
theorem rW:Lf (DT 2 fsT) (gp (DT 2 fsT))=some 1:=by kernel_rfl
theorem rL1:mM 1 4=[0]:=by kernel_rfl
theorem rA:(anp (ait (az (ep (aT 2) (cb (aT 2)) (dA (aT 2).gone (aT 2).new (aT 2).af) (gp (aT 2)))) (((ep (aT 2) (cb (aT 2)) (dA (aT 2).gone (aT 2).new (aT 2).af) (gp (aT 2))).length:Nat):Int) (aT 2).after.length (aT 2).before.length)).2.2=(2,0):=by kernel_rfl
theorem Y6{ro:Nat→Option Obj}(hK:gF ro l (aT 2)):EW zT 11 [.agg ⟨l⟩] ro [] (fun r Y=>r= .tuple ⟨[zI 4,zI 0]⟩∧Y=[]):=
 (AV hK (cC (by decide)) cV).mono fun v X h=>⟨by rw[h.1,rT];rfl,h.2⟩
theorem acI{ro:Nat→Option Obj}(hK:gF ro l (aT 1)):EW zT 44 [.agg ⟨l⟩] ro [] (fun r Y=>r= .tuple ⟨[zI 2,zI 0]⟩∧Y=[]):=
 (alA hK (cC (by decide)) cV).mono fun v X ⟨zs,m,e,hz,hY,hr,h⟩=>by
  rcases h with ⟨h,_⟩| ⟨h,hm,he⟩
  ·exact(rLn (by rw[←hz.length_eq,h];rfl)).elim
  exact⟨by rw[hr,hm,he,Cj (hz.map FU) (AR h),rL],hY⟩
theorem aks{ro:Nat→Option Obj}(hK:gF ro l (aT 1)):EW zT 43 [.agg ⟨l⟩] ro [] (fun r Y=>∃v,r= .tuple ⟨[v,zI 0]⟩∧∀aF,Knows aF Y→LL aF v [[0,0],[2,1]]):=
 (asV hK cV (kL (cC (by decide))) (sH hK (cC (by decide)) cV) Bn).mono fun r X ⟨zs,v,e,hz,hr,h⟩=>by
  rcases h with ⟨h,_⟩| ⟨h,he,hl⟩
  ·exact(r1n (by rw[←hz.length_eq,h];rfl)).elim
  refine⟨v,by rw[hr,he],fun aF hk=>?_⟩
  have:=hl aF hk
  rwa[Bo hz,hz.length_eq,rU] at this
theorem acH{ro:Nat→Option Obj}(hK:gF ro l (aT 2)):EW zT 21 [.agg ⟨l⟩] ro [] (fun r Y=>r= .tuple ⟨[.agg ⟨[zI 0,zI 2]⟩,zI 0]⟩∧Y=[]):=
 (Tz hK cV (kL (cC (by decide))) (sH hK (cC (by decide)) cV)).mono fun r X ⟨zs,a,b,e,hz,hY,hr,h⟩=>by
  rcases h with ⟨h,_⟩| ⟨h,ha,hb,he⟩
  ·exact(r2n (by rw[←hz.length_eq,h];rfl)).elim
  exact⟨by rw[hr,ha,hb,he,Cj (hz.map _) (AR h),J9 (hz.map _) (AR h),rM1,rM2],hY⟩
theorem art{ro:Nat→Option Obj}(hK:gF ro l (aT 2)):EW zT 15 [.agg ⟨l⟩] ro [] (fun r Y=>∃a b,r= .tuple ⟨[zI a,zI b,zI 2,zI 0]⟩∧Y=[]):=
 (aPg hK cV (kL (cC (by decide))) (sH hK (cC (by decide)) cV) Bn).mono fun r X ⟨zs,a,b,w,e,hz,hY,hr,h⟩=>by
  rcases h with ⟨h,_⟩| ⟨h,ha⟩
  ·exact(r2n (by rw[←hz.length_eq,h];rfl)).elim
  rw[Bo hz,hz.length_eq] at ha
  have h2:=congrArg (fun x:Int×Int×Int×Int=>x.2.2) ha
  dsimp only at h2
  rw[rA] at h2
  cases h2
  exact⟨a,b,hr,hY⟩
theorem acG{ro:Nat→Option Obj}(hK:gF ro l (DT 2 fsT)):eS zT 9 [.agg ⟨l⟩] ro [] (fun r Y=>∃v,r= .tuple ⟨[v,zI 0]⟩∧ax v 1 3 cT [0] Y):=
 Fn.mono (asF hK cVT (kL cCT) (sH hK cCT cVT) (by decide)) fun en s' ⟨r,X,h1,h2,v,e,hr,h⟩=>⟨r,X,h1,h2,by
  rcases h with ⟨m,hm,ho,he⟩| ⟨hm,_⟩
  ·rw[rW] at hm;cases hm
   rw[rL1] at ho
   exact⟨v,by rw[hr,he],ho⟩
  rw[rW] at hm;cases hm⟩
theorem aea{ro:Nat→Option Obj}{v4 vf:Value}{fa:Option Addr}(h:gF ro [v0,v1,.slice fa 0 fc,v3,v4,v5,v6,v7,zI 1,zI 1,zI n,vb] (aT n))(hf:bE ro vf 3 lP fs):gF ro [v0,v1,.slice fa 0 fc,v3,v4,v5,v6,v7,zI 1,zI 1,zI n,vf] (DT n fs):=by
 obtain⟨w0,w1,w3,w4,w5,w6,w7,wb,ga,gc,hv,e,h1,h2,h3,h4,h5,h6,h7,_⟩:=h
 cases e
 exact⟨_,_,_,_,_,_,_,_,_,_,hv,rfl,h1,h2,h3,h4,h5,h6,h7,hf⟩
theorem OC{v4:Value}{fa fb:Option Addr}{fn fd:Nat}(h:∀v∈[v0,v1,v3,v4,v5,v6,v7,vb],single v=true):∀v∈[v0,v1,.slice fa 0 fc,v3,v4,v5,v6,v7,zI 1,zI 1,zI 2,.slice fb fn fd],single v=true:=by
 simp only[List.mem_cons,List.not_mem_nil,or_false] at h ⊢
 rintro v (rfl|rfl|rfl|rfl|rfl|rfl|rfl|rfl|rfl|rfl|rfl|rfl)<;>first|rfl|exact h _ (by simp)
theorem LL.up{ro aF:Nat→Option Obj}{v:Value}{W:List (List Int)}(h:LL ro v W)(hs:Sub ro aF):LL aF v W:=by
 obtain⟨ws,h1,h2⟩:=h
 exact⟨ws,h1.up hs,h2.imp fun _ _ k=>k.up hs⟩
theorem apP(a b c d:Int):EqV zT 64 (.agg ⟨[zI a,zI b]⟩) (.agg ⟨[zI c,zI d]⟩) (a==c&&(b==d&&true)):=
 No (uF (dep:=9999) (nJ Tryz.typeInfo64 Tryz.underlying64 rfl rfl rfl rfl rfl rfl) Tryz.stoodInHeld64 (.cons (by decide) (kN ng rfl) (kN ng rfl) (oD ng _ _) (.cons (by decide) (kN ng rfl) (kN ng rfl) (oD ng _ _) .nil)))
theorem aAT:oF zT 64:=by unfold oF;kernel_rfl
theorem E9{ro:Nat→Option Obj}:EW zT 14 [] ro [] (fun r Y=>r= .bool true∧Y=[]):=by
 refine Ep au [] [] bu fun fr=>zD 6<|jc (vs:=[zI 2]) [] (KY) ?_
 rintro _ Y16 ⟨l16,rfl,aTn,QI⟩
 refine jf [0] Y16 (fun BE cd jW=>?_)
 have aTV:=aTn _ jW
 refine Fg (vs:=[(.agg ⟨l16⟩)]) [] (fun _ _ h=>h) (Y6 aTV) ?_
 rintro _ _ ⟨rfl,rfl⟩
 refine jg 0 []<|zD 8<|jc (vs:=[zI 1]) [] (KY) ?_
 rintro _ Y21 ⟨l21,rfl,aTm,aad⟩
 refine jf [0] Y21 (fun ro6 lL hk5=>?_)
 have amA:=aTm _ hk5
 refine Fg (vs:=[(.agg ⟨l21⟩)]) [] (fun _ _ h=>h) (aks amA) ?_
 rintro _ Y22 ⟨v22,rfl,aRo⟩
 refine zD 5<|jf [0] Y22 (fun ro9 sA hk8=>?_)
 have aTp:=aRo _ hk8
 refine zD 3<|jc (vs:=[zI 2]) [] (KY) ?_
 rintro _ Y26 ⟨wB,rfl,aTl,EI⟩
 refine jf [0] Y26 (fun bck aB1 aRD=>?_)
 have aTU:=aTl _ aRD
 refine Fg (vs:=[(.agg ⟨wB⟩)]) [] (fun _ _ h=>h) (acH aTU) ?_
 rintro _ _ ⟨rfl,rfl⟩
 refine jg 0 []<|zD 3<|jn fun b5=>jd 5 [0]<|jc (vs:=[zI 1]) [] (KY) ?_
 rintro _ Y31 ⟨P0,rfl,aTk,QH⟩
 refine jf [0] Y31 (fun azF alZ T8=>?_)
 have aTT:=aTk _ T8
 refine Fg (vs:=[(.agg ⟨P0⟩)]) [] (fun _ _ h=>h) (acI aTT) ?_
 rintro _ _ ⟨rfl,rfl⟩
 refine jg 0 []<|zD 8<|jc (vs:=[zI 2]) [] (KY) ?_
 rintro _ Y36 ⟨l36,rfl,aTj,Hh⟩
 refine jp (vs:=[zI 2,zI 1,.bool true]) [] [] (fun aB hs hZ=>ane)<|jp (vs:=[zI 0,zI 1,.bool true]) [] [] (fun aB hs hZ=>ane)<|jn fun b39=>jf [1,0] (Y36++[(b39,.cells ⟨[zI 2,zI 1,.bool true,zI 0,zI 1,.bool true]⟩ 57 (0,0))]) (fun bch aBZ Z5=>?_)
 have aTR:=aTj _ (Knows.left Z5)
 have aRR:=bV (sz:=3) (enc:=lP) (T:=57) [⟨2,1,true⟩,⟨0,1,true⟩] (Knows.right Z5 _ (.head _)) (fun _ _=>rfl)
 obtain⟨v0,v1,v3,v4,v5,v6,v7,vb,fa,fc,rfl,aQt⟩:=Hh
 refine jp (vs:=[.agg ⟨[v0,v1,(.slice fa 0 fc),v3,v4,v5,v6,v7,zI 1,zI 1,zI 2,vb]⟩,(.slice (some ⟨b39,0,none⟩) 2 2)]) [] [] (fun aB hs hZ=>aG3 (OC aQt))<|jc (vs:=[.agg ⟨[v0,v1,(.slice fa 0 fc),v3,v4,v5,v6,v7,zI 1,zI 1,zI 2,(.slice (some ⟨b39,0,none⟩) 2 2)]⟩]) [] (acG (aea aTR aRR)) ?_
 rintro _ Y41 ⟨v41,rfl,aQY⟩
 refine zD 8<|jc (vs:=[zI 2]) [] (KY) ?_
 rintro _ Y45 ⟨l45,rfl,aTi,aac⟩
 refine jf [0] Y45 (fun bcf aBY aRA=>?_)
 have aTQ:=aTi _ aRA
 refine Fg (vs:=[(.agg ⟨l45⟩)]) [] (fun _ _ h=>h) (art aTQ) ?_
 rintro _ _ ⟨qa,qb,rfl,rfl⟩
 refine jg 0 []<|jd 49 [1]<|jeq aAT (apP 0 2 0 2)<|zD 3<|jn fun b92=>jn fun b93=>jn fun b94=>jf [2,1,0] ((b92,.cells ⟨[zI 0,zI 0]⟩ 3 (0,0))::((b93,.cells ⟨[zI 2,zI 1]⟩ 3 (0,0))::[(b94,.cells ⟨[.slice (some ⟨b92,0,none⟩) 2 2,.slice (some ⟨b93,0,none⟩) 2 2]⟩ 22 (0,0))])) (fun bcd aBX auv=>?_)
 obtain⟨wsM,hsM,haM⟩:=aTp.up ((((aB1.trans alZ).trans aBZ).trans aBY).trans aBX)
 have aP1:=bV (sz:=1) (enc:=gJ) (T:=22) [.slice (some ⟨b92,0,none⟩) 2 2,.slice (some ⟨b93,0,none⟩) 2 2] (auv _ (.tail _ (.tail _ (.head _)))) (fun _ _=>rfl)
 have aTb:=bV (sz:=1) (enc:=cT) (T:=3) [0,0] (auv _ (.head _)) (fun _ _=>rfl)
 have aTa:=bV (sz:=1) (enc:=cT) (T:=3) [2,1] (auv _ (.tail _ (.head _))) (fun _ _=>rfl)
 refine jp (vs:=[v22,(.slice (some ⟨b94,0,none⟩) 2 2)]) [] [] (fun aB hs hZ=>(show dO _ _ _ _ (.bool (EM [[0,0],[2,1]] [[0,0],[2,1]])) from ahT (hsM.up hs) (aP1.up hs) (haM.imp fun _ _ h=>h.up hs) (.cons (aTb.up hs) (.cons (aTa.up hs) .nil)) (by decide) (by decide) (by decide) (by decide)))<|zD 3<|jn fun b99=>jp (vs:=[v41,.slice (some ⟨b99,0,none⟩) 1 1]) [1,0] (Y41++[(b99,.cells ⟨([0].map cT).flatten⟩ 3 (0,0))]) (fun aB hs hZ=>(show dO _ _ _ _ (.bool (UU [0] [0])) from apR (aQY.lR hZ.left) (bV [0] hZ.right.head (by intro p hp;rfl)) (by decide) (by decide))) ?_
 refine zD 4<|N4 qC.a.a.a.a.a.a.a.a (.bool true) [3] [] (((((((cd.trans lL).trans sA).trans aB1).trans alZ).trans aBZ).trans aBY).trans aBX) ⟨rfl,rfl⟩
theorem XA{n:Nat}(hn:n≤4)(hi:i <n):hasB (IntKind.u8.wrap (dJ .u8 1 (n:Int)-1)) i=true:=by
 have h:(n=1∧i=0)∨(n=2∧(i=0∨i=1))∨(n=3∧(i=0∨i=1∨i=2))∨(n=4∧(i=0∨i=1∨i=2∨i=3)):=by omega
 rcases h with ⟨rfl,rfl⟩| ⟨rfl,rfl|rfl⟩| ⟨rfl,rfl|rfl|rfl⟩| ⟨rfl,rfl|rfl|rfl|rfl⟩<;>rfl
def Ed(a b:Int)(l:List ez):Bool:=l.any fun x=>(decide (x.a=a)&&decide (x.b=b))&& !x.same
def tV(p:Nat→Int)(l:List ez):Bool:=l.all fun x=> !x.same||decide (p x.a.toNat=x.b+1)
theorem V2{on:Int}{a b:Int}:∀ {l:List ez} {k:Nat},(∀j,j <l.length→hasB on ((k+j:Nat):Int)=true)→BU on a b l k=Ed a b l
 | [],_,_=>rfl
 |x::l,k,h=>by
  have h0:=h 0 (Nat.zero_lt_succ _)
  have ih:=V2 (a:=a) (b:=b) (l:=l) (k:=k+1) fun j hj=>by
   have:=h (j+1) (Nat.succ_lt_succ hj)
   rwa[show k+1+j=k+(j+1) by omega]
  simp only[Nat.add_zero] at h0
  simp only[BU,h0,ih,Ed,List.any_cons,Bool.true_and]
theorem JF{on:Int}{p:Nat→Int}:∀ {l:List ez} {k:Nat},(∀j,j <l.length→hasB on ((k+j:Nat):Int)=true)→mr on p l k=tV p l
 | [],_,_=>rfl
 |x::l,k,h=>by
  have h0:=h 0 (Nat.zero_lt_succ _)
  have ih:=JF (p:=p) (l:=l) (k:=k+1) fun j hj=>by
   have:=h (j+1) (Nat.succ_lt_succ hj)
   rwa[show k+1+j=k+(j+1) by omega]
  simp only[Nat.add_zero] at h0
  simp only[mr,h0,ih,tV,List.all_cons,Bool.true_and]
  cases x.same<;>cases decide (p x.a.toNat=x.b+1)<;>simp
def oT(F:Nat→Nat→Bool)(R:(Nat→Int)→Bool)(na:Nat):Nat→Nat→(Nat→Int)→List (Nat→Int)
 |0,_,p=>bif R p then [p] else []
 |n+1,a,p=>oT F R na n (a+1) p++(List.range na).flatMap fun b=>bif !F a b||EH p a ((b:Int)+1) then [] else oT F R na n (a+1) (m9 p a ((b:Int)+1))
def Ng(K:aP)(a b:Nat):Bool:=match K.before[a]?,K.after[b]? with
 |some x,some y=> !zv K x y&&(!uK K x y&& !Ed a b K.facts)
 |_,_=>false
theorem amV(h:K.facts.length≤4)(a b:Nat):dc K (cb K) a b=Ng K a b:=by
 have e:BU (cb K) a b K.facts 0=Ed a b K.facts:=V2 fun j hj=>by
  rw[Nat.zero_add];exact XA h hj
 simp only[dc,Ng,e]
 cases K.before[a]?<;>cases K.after[b]?<;>rfl
theorem wN(h:K.facts.length≤4):∀(n a:Nat) (p:Nat→Int),iV K (cb K) n a p=oT (Ng K) (fun p=>tV p K.facts) K.after.length n a p
 |0,a,p=>by
  have e:mr (cb K) p K.facts 0=tV p K.facts:=JF fun j hj=>by
   rw[Nat.zero_add];exact XA h hj
  simp only[iV,oT,e]
 |n+1,a,p=>by
  simp only[iV,oT,amV h,wN h n]
theorem KB{R Q:(Nat→Int)→Bool}:∀(n a:Nat) (p:Nat→Int),oT F (fun p=>R p&&Q p) na n a p=(oT F R na n a p).filter Q
 |0,_,p=>by
  simp only[oT]
  cases h1:R p<;>cases h2:Q p<;>simp[h2]
 |n+1,a,p=>by
  simp only[oT,KB n,List.filter_append,List.filter_flatMap]
  congr 2
  funext b
  cases !F a b||EH p a ((b:Int)+1)<;>simp
theorem zl{R:(Nat→Int)→Bool}:∀(n a:Nat) (p q:Nat→Int),q∈oT F R na n a p→∀c,c <a→q c=p c
 |0,_,p,q,h,c,_=>by
  simp only[oT] at h
  cases hr:R p
  ·rw[hr] at h;simp at h
  rw[hr] at h;simp at h;rw[h]
 |n+1,a,p,q,h,c,hc=>by
  simp only[oT,List.mem_append,List.mem_flatMap] at h
  rcases h with h| ⟨b,_,h⟩
  ·exact zl n _ _ _ h c (by omega)
  cases hx: !F a b||EH p a ((b:Int)+1)
  ·rw[hx] at h
   rw[zl n _ _ _ h c (by omega)]
   simp only[m9]
   rw[if_neg (by omega)]
  rw[hx] at h;simp at h
theorem Hn{G:Nat→Nat→Bool}{R:(Nat→Int)→Bool}{x y:Nat}(hG:∀i j,G i j=(F i j&& !(decide (i=x)&&decide (j=y)))):∀(n a:Nat) (p:Nat→Int),p x≠(y:Int)+1→oT G R na n a p=(oT F R na n a p).filter fun q=> !decide (q x=(y:Int)+1)
 |0,_,p,hp=>by
  simp only[oT]
  cases R p<;>simp[hp]
 |n+1,a,p,hp=>by
  simp only[oT,List.filter_append,List.filter_flatMap]
  rw[Hn hG n _ _ hp]
  congr 2
  funext b
  by_cases hc:a=x∧b=y
  ·obtain⟨rfl,rfl⟩:=hc
   rw[hG]
   have e:(oT F R na n (a+1) (m9 p a ((b:Int)+1))).filter (fun q=> !decide (q a=(b:Int)+1))=[]:=by
    refine List.filter_eq_nil_iff.2 fun q hq=>?_
    have:=zl n _ _ _ hq a (by omega)
    rw[this]
    simp[m9]
   cases h2: !F a b||EH p a ((b:Int)+1)
   ·simp only[decide_true,Bool.and_self,Bool.not_true,Bool.and_false,Bool.not_false,Bool.true_or,cond_true,cond_false]
    exact e.symm
   simp
  have e:G a b=F a b:=by
   rw[hG]
   by_cases h1:a=x
   ·simp[h1,show ¬b=y from fun h=>hc ⟨h1,h⟩]
   simp[h1]
  rw[e]
  have hu:m9 p a ((b:Int)+1) x≠(y:Int)+1:=by
   simp only[m9]
   split
   ·rename_i h;intro h2;exact hc ⟨h.symm,by omega⟩
   exact hp
  cases !F a b||EH p a ((b:Int)+1)
  ·simp only[cond_false];exact Hn hG n _ _ hu
  simp
abbrev bJ(K:aP)(t:ez):aP:={K with facts:=K.facts++[t]}
theorem Zp(hs:t.same=true)(h:K.facts.length≤3):bU (bJ K t) (cb (bJ K t))=(bU K (cb K)).filter fun q=>decide (q t.a.toNat=t.b+1):=by
 have h1:(bJ K t).facts.length≤4:=by simp;omega
 have h2:K.facts.length≤4:=by omega
 simp only[bU]
 rw[wN h1,wN h2,←KB]
 have e1:Ng (bJ K t)=Ng K:=by
  funext a b
  have:Ed a b (bJ K t).facts=Ed a b K.facts:=by simp[Ed,hs]
  simp only[Ng,this]
  rfl
 rw[e1]
 congr 1
 funext p
 simp[tV,hs]
theorem ac9(hs:t.same=false)(h:K.facts.length≤3)(ha:0≤t.a)(hb:0≤t.b):bU (bJ K t) (cb (bJ K t))=(bU K (cb K)).filter fun q=> !decide (q t.a.toNat=t.b+1):=by
 have h1:(bJ K t).facts.length≤4:=by simp;omega
 have h2:K.facts.length≤4:=by omega
 simp only[bU]
 rw[wN h1,wN h2]
 have e1:(fun p=>tV p (bJ K t).facts)=fun p=>tV p K.facts:=by
  funext p;simp[tV,hs]
 rw[e1]
 have hbn:((t.b.toNat:Nat):Int)=t.b:=by omega
 have:=Hn (F:=Ng K) (G:=Ng (bJ K t)) (R:=fun p=>tV p K.facts) (na:=K.after.length) (x:=t.a.toNat) (y:=t.b.toNat) (fun i j=>by
  have e:Ed i j (bJ K t).facts=(Ed i j K.facts||(decide (i=t.a.toNat)&&decide (j=t.b.toNat))):=by
   have e1:decide (t.a=(i:Int))=decide (i=t.a.toNat):=decide_eq_decide.2 (by omega)
   have e2:decide (t.b=(j:Int))=decide (j=t.b.toNat):=decide_eq_decide.2 (by omega)
   simp[Ed,hs,e1,e2]
  simp only[Ng,e]
  show (match K.before[i]?,K.after[j]? with|some x,some y=> !zv K x y&&(!uK K x y&& !(Ed i j K.facts||(decide (i=t.a.toNat)&&decide (j=t.b.toNat))))|_,_=>false)=_
  split
  ·rename_i x y _ _
   cases zv K x y<;>cases uK K x y<;>cases Ed i j K.facts<;>simp
  simp) K.before.length 0 (fun _=>0) (by show (0:Int)≠_;omega)
 rw[hbn] at this
 exact this
theorem Wn{r:bP}{p:Nat→Int}(hq:q <4):pI (cY K r i p) q=p q:=by
 rcases Ka hq with rfl|rfl|rfl|rfl<;>rfl
theorem DX{K':aP}{on on':Int}{keep:aw→Bool}{rows:List bP}{Q:(Nat→Int)→Bool}{S:aw→Bool}(hp:bU K' on'=(bU K on).filter Q)(hm:∀r i p,cY K' r i p=cY K r i p)(hS:∀r i p,S (cY K r i p)=Q p):ep K' on' keep rows=(ep K on keep rows).filter S:=by
 have h1:∀r i,oJ K' on' keep r i=(oJ K on keep r i).filter S:=fun r i=>by
  have e:(cY K' r i)=cY K r i:=funext fun p=>hm r i p
  simp only[oJ,hp,e,List.filter_map,List.filter_filter]
  congr 1
  refine List.filter_congr fun p _=>?_
  simp only[Function.comp,hS]
  exact Bool.and_comm _ _
 simp only[ep,jz,List.filter_flatten,List.map_map]
 congr 1
 refine List.map_congr_left fun i _=>?_
 simp only[Function.comp,h1]
theorem Rv{keep:aw→Bool}{rows:List bP}(hs:t.same=true)(h:K.facts.length≤3)(ha:0≤t.a∧t.a <4):ep (bJ K t) (cb (bJ K t)) keep rows=(ep K (cb K) keep rows).filter fun x=>decide (pI x t.a.toNat=t.b+1):=
 DX (Zp hs h) (fun _ _ _=>rfl) fun r i p=>by rw[Wn (by omega)]
theorem Yk{keep:aw→Bool}{rows:List bP}(hs:t.same=false)(h:K.facts.length≤3)(ha:0≤t.a∧t.a <4)(hb:0≤t.b):ep (bJ K t) (cb (bJ K t)) keep rows=(ep K (cb K) keep rows).filter fun x=> !decide (pI x t.a.toNat=t.b+1):=
 DX (ac9 hs h ha.1 hb) (fun _ _ _=>rfl) fun r i p=>by rw[Wn (by omega)]
theorem Sr{a:Int}(h:K.facts.length≤3)(ha:0≤a∧a <4)(hb:0≤b):bY (bJ K ⟨a,b,true⟩)+bY (bJ K ⟨a,b,false⟩)=bY K:=by
 have e1:bY (bJ K ⟨a,b,true⟩)=(ep (bJ K ⟨a,b,true⟩) (cb (bJ K ⟨a,b,true⟩)) (dA K.gone K.new K.af) (gp K)).length:=rfl
 have e2:bY (bJ K ⟨a,b,false⟩)=(ep (bJ K ⟨a,b,false⟩) (cb (bJ K ⟨a,b,false⟩)) (dA K.gone K.new K.af) (gp K)).length:=rfl
 rw[e1,e2,Rv rfl h ha,Yk rfl h ha hb,←List.countP_eq_length_filter,←List.countP_eq_length_filter]
 have:=List.length_eq_countP_add_countP (fun x:aw=>decide (pI x a.toNat=b+1)) (l:=ep K (cb K) (dA K.gone K.new K.af) (gp K))
 simp only[bY]
 rw[this]
 congr 2
 funext x
 simp
theorem aaJ{a:Int}(h:K.facts.length≤3)(ha:0≤a∧a <4)(hb:0≤b)(h0:bY (bJ K ⟨a,b,false⟩)=0):
 ep (bJ K ⟨a,b,true⟩) (cb (bJ K ⟨a,b,true⟩)) (dA K.gone K.new K.af) (gp K)=ep K (cb K) (dA K.gone K.new K.af) (gp K):=by
 have e2:bY (bJ K ⟨a,b,false⟩)=(ep (bJ K ⟨a,b,false⟩) (cb (bJ K ⟨a,b,false⟩)) (dA K.gone K.new K.af) (gp K)).length:=rfl
 rw[e2,Yk rfl h ha hb] at h0
 rw[Rv rfl h ha]
 refine List.filter_eq_self.2 fun x hx=>?_
 have:=List.filter_eq_nil_iff.1 (List.eq_nil_of_length_eq_zero h0) x hx
 simpa using this
theorem akc{a:Int}(h:Dm fs a b=false):∀x∈fs,¬(x.a=a∧x.b=b):=fun x hx hc=>by
 have:=List.any_eq_false.1 h x hx
 simp[hc.1,hc.2] at this
theorem mH.add(h:mH K)(h3:K.facts.length≤3)(ha:0≤t.a∧t.a <K.before.length)(hb:0≤t.b∧t.b <K.after.length)(ht:Dm K.facts t.a t.b=false):mH (bJ K t):=
 ⟨h.qy,h.ways,h.dP,h.rules,h.before,h.after,h.y3,⟨by simp;omega,fun x hx=>by
  rcases List.mem_append.1 hx with hx|hx
  ·exact h.facts.2 x hx
  ·rw[List.mem_singleton.1 hx];exact⟨ha,hb⟩⟩,List.pairwise_append.2 ⟨h.apart,List.pairwise_singleton _ _,fun x hx y hy=>by
  rw[List.mem_singleton.1 hy];exact akc ht x hx⟩⟩
theorem gh.add(h:gh K)(h3:K.facts.length≤3)(ha:0≤t.a∧t.a <K.before.length)(hb:0≤t.b∧t.b <K.after.length):gh (bJ K t):=
 ⟨h.rules,h.before,h.after,h.dP,⟨by simp;omega,fun x hx=>by
  rcases List.mem_append.1 hx with hx|hx
  ·exact h.facts.2 x hx
  rw[List.mem_singleton.1 hx];exact⟨ha,hb⟩⟩⟩
theorem Ss(hC:mH K)(hV:gh K):bY K≤1250:=qW hV _ _ (kL hC)
set_option maxHeartbeats 2000000 in
theorem gq {ro:Nat→Option Obj} (hK:gF ro l K) (hO:mH K):eS zT 18 [.agg ⟨l⟩] ro [] (fun r Y=>∃(v0 v1 v3 v4 v5 v6 v7 vb:Value) (fa:Option Addr) (fc:Nat) (LF Z:Cells),r= .agg ⟨[v0,v1,.slice fa 0 fc,v3,v4,v5,v6,v7,zI K.gone,zI K.new,zI K.af,vb]⟩∧(∀v∈[v0,v1,v3,v4,v5,v6,v7,vb],single v=true)∧ax vb 3 57 lP K.facts LF∧(∀aF,Sub ro aF→Knows aF Z→∀(vf:Value) (fs:List ez),bE aF vf 3 lP fs→gF aF [v0,v1,.slice fa 0 fc,v3,v4,v5,v6,v7,zI K.gone,zI K.new,zI K.af,vf] {K with facts:=fs})∧Y=LF++Z):=by
 obtain⟨vS,vT,vc,vh,vr,vb,va,vf,fa,fc,hv,rfl,hS,hT,qj,nN,hr,hb,ha,hf⟩:=hK
 obtain⟨iM,hs,fN⟩:=id hS
 obtain⟨jk,ht,fI⟩:=id hT
 obtain⟨hc,hh,DK⟩:=id qj
 obtain⟨mW,S5,S3,lV,rfl,S4,LX,LW⟩:=hs
 obtain⟨fD,AF,AD,eA,rfl,AE,sL,sJ⟩:=ht
 obtain⟨eL,AH,AG,eF,rfl,Dt,yQ,yP⟩:=hc
 obtain⟨dS,vk,vi,dB,rfl,xw,q8,q7⟩:=hh
 obtain⟨lG,Ic,Ib,lF,rfl,NZ,Gc,Gb⟩:=hr
 obtain⟨jV,Pd,Pb,jP,rfl,Pc,N1,N0⟩:=hb
 obtain⟨jC,Mc,Ma,jq,rfl,Mb,JU,JR⟩:=ha
 obtain⟨iA,B5,B4,gR,rfl,IM,xX,xW⟩:=hf
 have CE:=hO.rules
 have q5:=hO.before.1
 have Oa:=hO.after.1
 have N9:=hO.facts.1
 have N8:=hO.ways.1
 have Il:=fN.len
 have ED:=fI.len
 have Xo:=hO.qy.two
 have hl9:=hO.dP.nh
 have NY:∀(i:Nat) (p:cU),([]:List cU)[i]?=some p→cv ⟨ro,[]⟩ 0 (0+i*6) 6 (ny p):=fun _ _ h=>oP h
 refine bC au [] [] bu<|zD 2<|jn fun b1=>jn fun b2=>zD 3<|jn fun b6=>jd 3 [2]<|jE (sz:=6) (ps:=[]) (qs:=([]:List cU)) (enc:=ny) (w:= .slice fa 0 fc) [0] [] [] (bw (b:=b6) (T:=256)) (fun s he _=>⟨fa,0,0,fc,rfl,(fun _ h=>absurd h (Nat.not_lt_zero _)),fun i p hp=>(NY i p hp).ext he⟩) (fun p _=>ai rfl) (by simp<;>omega) (fun v10 L10 G5=>?_)
 rw[List.nil_append] at G5
 obtain⟨yH,yG,auW⟩:=G5.form
 subst auW
 refine zD 1<|jn fun b3=>jd 8 [0]<|py<|py<|eO [1,1,0,1,0,0] [] (fun(zz:Nat×Value×Cells×(List Value)×Cells)=>[(1,zP b1),(2,zP b2),(3,zP b3),(4,zI (zz.1:Int))]) (fun(zz:Nat×Value×Cells×(List Value)×Cells)=>[.b b3 (.cells ⟨[zz.2.1,zS,(.slice yH (([]:List cU)).length yG)]⟩ 29 (0,0)),.l zz.2.2.1,.l zz.2.2.2.2,.l L10,.b b2 (.cells ⟨zO⟩ 38 (0,0)),.b b1 (.cells ⟨[.slice mW iM.length lV,.slice fD jk.length eA,.slice fa 0 fc,.slice eL K.cs.length eF,.slice dS hv.length dB,.slice lG K.rules.length lF,.slice jV K.before.length jP,.slice jC K.after.length jq,zI K.gone,zI K.new,zI K.af,.slice iA K.facts.length gR]⟩ 38 (0,0))]) (fun(zz:Nat×Value×Cells×(List Value)×Cells)=>(zz.1≤iM.length∧zz.2.2.2.1.length=zz.1)∧ax zz.2.1 1 71 gJ zz.2.2.2.1 zz.2.2.1∧∀aF,Knows aF zz.2.2.2.2→dg (fun w l=>bE aF w 2 cE l) zz.2.2.2.1 (K.str.take zz.1)) (fun(zz:Nat×Value×Cells×(List Value)×Cells)=>iM.length-zz.1) (⟨0,zS,[],[],[]⟩) ⟨⟨by omega,rfl⟩,ax.nil _ _ _,fun _ _=> .nil⟩ [2,1,0,3,4,5] ?_
 rintro⟨i,v0,L0,ps,Z⟩ hI K1 bG rest
 dsimp only at hI
 refine jd 11 [5]<|zJ 18 ((i:Int) <(iM.length:Int)) (fun h1=>?_) fun h1=>?_
 ·
  refine jd 13 [0,5] ?_
  obtain⟨oG,jF⟩:=zG iM i
  refine jb lV 1 LX jF ?_
  obtain⟨P0,afC,h31⟩:=fN.get jF
  obtain aRn:=hO.qy.len _ (List.mem_of_getElem? afC)
  obtain⟨acW,arU,arR,acV,rfl,aN9,arT,arS⟩:=h31
  refine jl 0 (LW _ _ jF)<|aD 3 fun BK BR A6=>jn fun mS=>ba A6 [1,2,3,4,5,6]<|aD 11 fun rZ r8 qL=>jE (sz:=2) (ps:=[]) (qs:=P0) (enc:=cE) (w:= .slice acW P0.length acV) [0] [] [] (bw (b:=mS) (T:=70)) (fun s he _=>⟨acW,arU,arR,acV,rfl,arT,fun i p hp=>(arS i p hp).ext he⟩) (fun p _=>ai rfl) (by simp<;>omega) (fun v32 L32 y9=>?_)
  rw[List.nil_append] at y9
  obtain⟨u9,u7,MS⟩:=y9.form
  subst MS
  refine iB qL [[6],[1]]<|aD 12 fun sN sU ri=>jn fun b33=>ba ri [1,2,3,4,5,6,7]<|aD 13 fun Aj Av A5=>jE (sz:=1) (ps:=ps) (qs:=[((.slice u9 (P0).length u7):Value)]) (enc:=gJ) (w:= .slice (some ⟨b33,0,none⟩) 1 1) [3] [0] [(b33,.cells ⟨([((.slice u9 (P0).length u7):Value)].map gJ).flatten⟩ 71 (0,0))] (hI.2.1) (fun s _ hZ=>bS [((.slice u9 (P0).length u7):Value)] (hZ _ (.head _)) (by intro p hp;rfl)) (by intro p hp;rw[List.mem_singleton] at hp;subst hp;exact ai rfl) (by simp<;>omega) (fun v34 L34 G2=>?_)
  obtain⟨IG,IE,MQ⟩:=G2.form
  subst MQ
  refine iB A5 [[7]]<|zD 2<|aD 16 fun Yt YH Uq=>jd 1 [3]<|iB Uq []<|zD 3<|ja ((i:Int)+1) (by omega)<|zD 2<|Km bG (⟨i+1,(.slice IG ((ps++[((.slice u9 (P0).length u7):Value)])).length IE),L34,(ps++[((.slice u9 (P0).length u7):Value)]),L32++Z⟩) ⟨⟨by dsimp only;omega,by simp only[List.length_append,List.length_cons,List.length_nil];omega⟩,G2,fun aF hk=>ql (hI.2.2 aF hk.right) afC (y9.lR hk.left)⟩ (by omega) [[3],[0],[2,4],[5],[6],[7]] (Sub.refl _)
 refine zD 8<|py<|py<|eO [1,1,1,0,1,0,0] [] (fun(zz:Nat×Value×Cells×(List Value)×Cells)=>[(1,zP b1),(2,zP b2),(3,zP b3),(5,zI (zz.1:Int))]) (fun(zz:Nat×Value×Cells×(List Value)×Cells)=>[.b b3 (.cells ⟨[v0,zz.2.1,(.slice yH (([]:List cU)).length yG)]⟩ 29 (0,0)),.l zz.2.2.1,.l zz.2.2.2.2,.l L0,.l Z,.l L10,.b b2 (.cells ⟨zO⟩ 38 (0,0)),.b b1 (.cells ⟨[.slice mW iM.length lV,.slice fD jk.length eA,.slice fa 0 fc,.slice eL K.cs.length eF,.slice dS hv.length dB,.slice lG K.rules.length lF,.slice jV K.before.length jP,.slice jC K.after.length jq,zI K.gone,zI K.new,zI K.af,.slice iA K.facts.length gR]⟩ 38 (0,0))]) (fun(zz:Nat×Value×Cells×(List Value)×Cells)=>(zz.1≤jk.length∧zz.2.2.2.1.length=zz.1)∧ax zz.2.1 1 78 gJ zz.2.2.2.1 zz.2.2.1∧∀aF,Knows aF zz.2.2.2.2→dg (fun w l=>bE aF w 7 lj l) zz.2.2.2.1 (K.ways.take zz.1)) (fun(zz:Nat×Value×Cells×(List Value)×Cells)=>jk.length-zz.1) (⟨0,zS,[],[],[]⟩) ⟨⟨by omega,rfl⟩,ax.nil _ _ _,fun _ _=> .nil⟩ [2,1,0,3,4,5,6,7] ?_
 rintro⟨j,v1,L1,qs,Z1⟩ hG K7 hK7 rest
 dsimp only at hG
 refine jd 10 [7]<|zJ 42 ((j:Int) <(jk.length:Int)) (fun h7=>?_) fun h7=>?_
 ·
  refine jd 11 [0,7] ?_
  obtain⟨x52,wE⟩:=zG jk j
  refine jb eA 1 sL wE<|zD 1 ?_
  obtain⟨Tv,afB,h54⟩:=fI.get wE
  obtain aRj:=(hO.ways.2 _ (List.mem_of_getElem? afB)).1.2
  obtain⟨acU,arQ,arN,acT,rfl,aNY,arP,arO⟩:=h54
  refine jl 0 (sJ _ _ wE)<|aD 2 fun Sd Su Up=>jn fun b47=>ba Up [1,2,3,4,5,6,7,8]<|aD 10 fun Ys YG Uo=>jE (sz:=7) (ps:=[]) (qs:=Tv) (enc:=lj) (w:= .slice acU Tv.length acT) [0] [] [] (bw (b:=b47) (T:=74)) (fun s he _=>⟨acU,arQ,arN,acT,rfl,arP,fun i p hp=>(arO i p hp).ext he⟩) (fun p _=>ai rfl) (by simp<;>omega) (fun v55 L55 y8=>?_)
  rw[List.nil_append] at y8
  obtain⟨FJ,FI,auN⟩:=y8.form
  subst auN
  refine iB Uo [[8],[1]]<|zD 1<|aD 12 fun FA FQ wJ=>jn fun b57=>ba wJ [1,2,3,4,5,6,7,8,9]<|aD 13 fun Jp Ju zh=>jE (sz:=1) (ps:=qs) (qs:=[((.slice FJ (Tv).length FI):Value)]) (enc:=gJ) (w:= .slice (some ⟨b57,0,none⟩) 1 1) [3] [0] [(b57,.cells ⟨([((.slice FJ (Tv).length FI):Value)].map gJ).flatten⟩ 78 (0,0))] (hG.2.1) (fun s _ hZ=>bS [((.slice FJ (Tv).length FI):Value)] (hZ _ (.head _)) (by intro p hp;rfl)) (by intro p hp;rw[List.mem_singleton] at hp;subst hp;exact ai rfl) (by simp<;>omega) (fun v58 L58 GY=>?_)
  obtain⟨IF,ID,CH⟩:=GY.form
  subst CH
  refine iB zh [[9]]<|zD 1<|aD 15 fun Oj OH CN=>jd 1 [3]<|cw CN<|zD 3<|ja ((j:Int)+1) (by omega)<|zD 2<|Km hK7 (⟨j+1,(.slice IF ((qs++[((.slice FJ (Tv).length FI):Value)])).length ID),L58,(qs++[((.slice FJ (Tv).length FI):Value)]),L55++Z1⟩) ⟨⟨by dsimp only;omega,by simp only[List.length_append,List.length_cons,List.length_nil];omega⟩,GY,fun aF hk=>ql (hG.2.2 aF hk.right) afB (y8.lR hk.left)⟩ (by omega) [[3],[0],[2,4],[5],[6],[7],[8],[9]] (Sub.refl _)
 refine zD 3<|Ff [1,1,1,1,1] [] (fun(zz:(Option Addr)×Nat×(Option Addr)×Nat×(List bp)×Cells×Value×Cells)=>[(1,zP b1),(2,zP b2)]) (fun(zz:(Option Addr)×Nat×(Option Addr)×Nat×(List bp)×Cells×Value×Cells)=>[.b b1 (.cells ⟨[v0,v1,(.slice yH (([]:List cU)).length yG),(.slice zz.1 K.cs.length zz.2.1),(.slice zz.2.2.1 zz.2.2.2.2.1.length zz.2.2.2.1),zz.2.2.2.2.2.2.1,.slice jV K.before.length jP,.slice jC K.after.length jq,zI K.gone,zI K.new,zI K.af,.slice iA K.facts.length gR]⟩ 38 (0,0)),.l zz.2.2.2.2.2.2.2,.l zz.2.2.2.2.2.1,.b b3 (.cells ⟨[v0,v1,(.slice yH (([]:List cU)).length yG)]⟩ 29 (0,0)),.l L1,.l Z1,.l L0,.l Z,.l L10,.b b2 (.cells ⟨zO⟩ 38 (0,0))]) (fun(zz:(Option Addr)×Nat×(Option Addr)×Nat×(List bp)×Cells×Value×Cells)=>dg de zz.2.2.2.2.1 K.hd∧(∀aF,Sub ro aF→Knows aF zz.2.2.2.2.2.1→jM aF (.slice zz.1 K.cs.length zz.2.1) (.slice zz.2.2.1 zz.2.2.2.2.1.length zz.2.2.2.1) K.cs zz.2.2.2.2.1 K.hd)∧ax zz.2.2.2.2.2.2.1 2 81 iW K.rules zz.2.2.2.2.2.2.2) ?_ (fun K13 M6=>?_)
 ·
  rintro⟨ta,tc,ua,uc,hw,ZT,vR,LR⟩ hJ rest
  dsimp only at hJ
  refine zD 1<|Ff [1,1,1,1,1,1] [] (fun(zz:Value×Cells×Value×Cells×Value×Cells)=>[(1,zP b1),(2,zP b2)]) (fun(zz:Value×Cells×Value×Cells×Value×Cells)=>[.b b1 (.cells ⟨[v0,v1,(.slice yH (([]:List cU)).length yG),(.slice ta K.cs.length tc),(.slice ua hw.length uc),vR,zz.1,zz.2.2.1,zI K.gone,zI K.new,zI K.af,zz.2.2.2.2.1]⟩ 38 (0,0)),.l zz.2.1,.l zz.2.2.2.1,.l zz.2.2.2.2.2,.l LR,.l ZT,.b b3 (.cells ⟨[v0,v1,(.slice yH (([]:List cU)).length yG)]⟩ 29 (0,0)),.l L1,.l Z1,.l L0,.l Z,.l L10,.b b2 (.cells ⟨zO⟩ 38 (0,0))]) (fun(zz:Value×Cells×Value×Cells×Value×Cells)=>ax zz.1 5 86 eT K.before zz.2.1∧ax zz.2.2.1 5 86 eT K.after zz.2.2.2.1∧ax zz.2.2.2.2.1 3 57 lP K.facts zz.2.2.2.2.2) ?_ (fun K14 Jb=>?_)
  ·
   rintro⟨vB,LB,vA,LA,vF,LF⟩ hM rest
   dsimp only at hM
   refine jd 3 [0] ?_
   obtain⟨aqN,aqF,auV⟩:=hI.2.1.form
   subst auV
   obtain⟨FK,D9,vw⟩:=hG.2.1.form
   subst vw
   obtain⟨aqM,aqE,MU⟩:=hJ.2.2.form
   subst MU
   obtain⟨aqL,aqD,afW⟩:=hM.1.form
   subst afW
   obtain⟨xU,xT,I9⟩:=hM.2.1.form
   subst I9
   obtain⟨abQ,YB,MT⟩:=hM.2.2.form
   subst MT
   refine jd 3 [12]<|aH q0 (.agg ⟨[(.slice aqN (ps).length aqF),(.slice FK (qs).length D9),(.slice yH (([]:List cU)).length yG),(.slice ta K.cs.length tc),(.slice ua hw.length uc),(.slice aqM (K.rules).length aqE),(.slice aqL (K.before).length aqD),(.slice xU (K.after).length xT),zI K.gone,zI K.new,zI K.af,(.slice abQ (K.facts).length YB)]⟩) [12] [3,1,2,4,5,7,8,9,10,11] (LF++(LB++(LA++(LR++(ZT++(L1++(Z1++(L0++(Z++L10))))))))) (Sub.refl _) ⟨_,_,rfl,rfl,_,_,_,_,_,_,_,_,_,_,_,_,rfl,Ay (fE hI.2.1) (fE hG.2.1) rfl rfl (fE hJ.2.2) (fE hM.1) (fE hM.2.1) (fE hM.2.2),hM.2.2,fun aF pe hk vf fs hvf=>⟨_,_,_,_,_,_,_,_,_,_,hw,rfl,⟨_,hI.2.1.lR hk.right.right.right.right.right.right.left,by have:=hI.2.2 aF hk.right.right.right.right.right.right.right.left;rwa[List.take_of_length_le (by omega)] at this⟩,⟨_,hG.2.1.lR hk.right.right.right.right.left,by have:=hG.2.2 aF hk.right.right.right.right.right.left;rwa[List.take_of_length_le (by omega)] at this⟩,hJ.2.1 aF pe hk.right.right.right.left,hJ.1,hJ.2.2.lR hk.right.right.left,hM.1.lR hk.left,hM.2.1.lR hk.right.left,hvf⟩,rfl⟩
  refine jd 7 [0,0,0]<|lJ [2,6] ⟨fun z15 t16 CM=>?_,fun z18 t19 Hj=>?_,trivial⟩
  ·
   refine jc (vs:=[.slice jV K.before.length jP]) [] (iI (show bE _ _ _ _ _ from ⟨jV,Pd,Pb,jP,rfl,Pc,N1,N0⟩) (by omega)) ?_
   rintro v73 L73 ⟨_,zb,rfl⟩
   refine ba CM [1,2,3,4,5,6,7,8,9,10]<|zD 1<|lJ [5,6] ⟨fun z21 t22 M4=>?_,fun z24 t25 EI=>?_,trivial⟩
   ·
    refine jc (vs:=[.slice jC K.after.length jq]) [] (iI (show bE _ _ _ _ _ from ⟨jC,Mc,Ma,jq,rfl,Mb,JU,JR⟩) (by omega)) ?_
    rintro v76 L76 ⟨_,wH,rfl⟩
    refine ba M4 [1,2,3,4,5,6,7,8,9,10,11]<|aD 6 fun Vx VN M3=>jn fun b77=>ba M3 [1,2,3,4,5,6,7,8,9,10,11,12]<|aD 9 fun Vw VM Hi=>jE (sz:=3) (ps:=[]) (qs:=K.facts) (enc:=lP) (w:= .slice iA K.facts.length gR) [0] [] [] (bw (b:=b77) (T:=57)) (fun s he _=>⟨iA,B5,B4,gR,rfl,xX,fun i p hp=>(xW i p hp).ext he⟩) (fun p _=>ai rfl) (by simp<;>omega) (fun v80 L80 gT=>?_)
    rw[List.nil_append] at gT
    obtain⟨As,Ap,CG⟩:=gT.form
    subst CG
    refine iB Hi []<|aD 11 (fun Oi OG CL=>?_)
    obtain⟨abP,abI,Ue⟩:=zb.form
    subst Ue
    refine jd 1 [3]<|cw CL<|zD 1<|aD 13 (fun Vv VL M1=>?_)
    obtain⟨aqJ,aqB,auS⟩:=wH.form
    subst auS
    refine jd 1 [3]<|cw M1<|zD 1<|aD 15 fun abm ab4 QH=>jd 1 [3]<|cw QH<|zD 1<|bF Jb ⟨(.slice abP (K.before).length abI),L73,(.slice aqJ (K.after).length aqB),L76,(.slice As (K.facts).length Ap),L80⟩ ⟨zb,wH,gT⟩ Nat.zero_lt_one [3,2,1,0,4,5,6,7,8,9,10,11,12] (Sub.refl _)
   refine jn fun b77=>ba EI [1,2,3,4,5,6,7,8,9,10,11]<|aD 5 fun anP aoi Uz=>jc (vs:=[.slice jC K.after.length jq]) [] (iI (show bE _ _ _ _ _ from ⟨jC,Mc,Ma,jq,rfl,Mb,JU,JR⟩) (by omega)) ?_
   rintro v76 L76 ⟨_,wH,rfl⟩
   refine ba Uz [1,2,3,4,5,6,7,8,9,10,11,12]<|aD 9 fun anO aoh Uy=>jE (sz:=3) (ps:=[]) (qs:=K.facts) (enc:=lP) (w:= .slice iA K.facts.length gR) [1] [] [] (bw (b:=b77) (T:=57)) (fun s he _=>⟨iA,B5,B4,gR,rfl,xX,fun i p hp=>(xW i p hp).ext he⟩) (fun p _=>ai rfl) (by simp<;>omega) (fun v80 L80 gT=>?_)
   rw[List.nil_append] at gT
   obtain⟨As,Ap,CG⟩:=gT.form
   subst CG
   refine iB Uy []<|aD 11 (fun anN aog agu=>?_)
   obtain⟨u9,u7,MS⟩:=zb.form
   subst MS
   refine jd 1 [3]<|cw agu<|zD 1<|aD 13 (fun anM aof agt=>?_)
   obtain⟨IG,IE,MQ⟩:=wH.form
   subst MQ
   refine jd 1 [3]<|cw agt<|zD 1<|aD 15 fun abl ab3 Hh=>jd 1 [3]<|cw Hh<|zD 1<|bF Jb ⟨(.slice u9 (K.before).length u7),L73,(.slice IG (K.after).length IE),L76,(.slice As (K.facts).length Ap),L80⟩ ⟨zb,wH,gT⟩ Nat.zero_lt_one [3,2,1,0,4,5,6,7,8,9,10,11,12] (Sub.refl _)
  refine jn fun b77=>ba Hj [1,2,3,4,5,6,7,8,9,10]<|aD 2 fun Vu VK M0=>jc (vs:=[.slice jV K.before.length jP]) [] (iI (show bE _ _ _ _ _ from ⟨jV,Pd,Pb,jP,rfl,Pc,N1,N0⟩) (by omega)) ?_
  rintro v73 L73 ⟨_,zb,rfl⟩
  refine ba M0 [1,2,3,4,5,6,7,8,9,10,11]<|zD 1<|aD 5 fun abk ab2 Ux=>jc (vs:=[.slice jC K.after.length jq]) [] (iI (show bE _ _ _ _ _ from ⟨jC,Mc,Ma,jq,rfl,Mb,JU,JR⟩) (by omega)) ?_
  rintro v76 L76 ⟨_,wH,rfl⟩
  refine ba Ux [1,2,3,4,5,6,7,8,9,10,11,12]<|aD 9 fun anL aoe ags=>jE (sz:=3) (ps:=[]) (qs:=K.facts) (enc:=lP) (w:= .slice iA K.facts.length gR) [2] [] [] (bw (b:=b77) (T:=57)) (fun s he _=>⟨iA,B5,B4,gR,rfl,xX,fun i p hp=>(xW i p hp).ext he⟩) (fun p _=>ai rfl) (by simp<;>omega) (fun v80 L80 gT=>?_)
  rw[List.nil_append] at gT
  obtain⟨As,Ap,CG⟩:=gT.form
  subst CG
  refine iB ags []<|aD 11 (fun anK aod agq=>?_)
  obtain⟨abN,abG,afS⟩:=zb.form
  subst afS
  refine jd 1 [3]<|cw agq<|zD 1<|aD 13 (fun axW ay2 Uw=>?_)
  obtain⟨aqI,aqA,auR⟩:=wH.form
  subst auR
  refine jd 1 [3]<|cw Uw<|zD 1<|aD 15 fun axV ay1 avz=>jd 1 [3]<|cw avz<|zD 1<|bF Jb ⟨(.slice abN (K.before).length abG),L73,(.slice aqI (K.after).length aqA),L76,(.slice As (K.facts).length Ap),L80⟩ ⟨zb,wH,gT⟩ Nat.zero_lt_one [3,2,1,0,4,5,6,7,8,9,10,11,12] (Sub.refl _)
 refine jd 7 [0,7,7]<|lJ [3,4] ⟨fun z43 t44 aac=>?_,fun z46 t47 agp=>?_,trivial⟩
 ·
  refine jc [] (ur hO.dP qj nN) ?_
  rintro _ Vi ⟨TQ,awj,avg,awh,au7,_,rfl,GS,GR,rfl⟩
  refine ba aac [1,2,3,4,5,6,7,8]<|aD 4 fun anJ aoc Uv=>jn fun b64=>ba Uv [1,2,3,4,5,6,7,8,9]<|aD 7 fun anI aob Uu=>jE (sz:=2) (ps:=[]) (qs:=K.rules) (enc:=iW) (w:= .slice lG K.rules.length lF) [0] [] [] (bw (b:=b64) (T:=81)) (fun s he _=>⟨lG,Ic,Ib,lF,rfl,Gc,fun i p hp=>(Gb i p hp).ext he⟩) (fun p _=>ai rfl) (by simp<;>omega) (fun v67 L67 mC=>?_)
  rw[List.nil_append] at mC
  obtain⟨Sq,Sm,Ub⟩:=mC.form
  subst Ub
  refine iB Uu [[2]]<|aD 9 (fun anH aoa ago=>?_)
  obtain⟨abM,abF,Ud⟩:=hI.2.1.form
  subst Ud
  obtain⟨aLP,aLx,auP⟩:=hG.2.1.form
  subst auP
  refine jd 1 [9]<|cw ago<|zD 1<|aD 11 fun anG an9 Ut=>jd 1 [9]<|cw Ut<|zD 1<|aD 13 fun abj ab1 MZ=>jd 1 [9]<|cw MZ<|zD 1<|bF M6 ⟨_,_,_,_,TQ,Vi,(.slice Sq (K.rules).length Sm),L67⟩ ⟨GS,GR,mC⟩ Nat.zero_lt_one [9,0,1,2,3,4,5,6,7,8] (Sub.refl _)
 refine jn fun b64=>ba agp [1,2,3,4,5,6,7,8]<|aD 3 fun abi ab0 Us=>jc [] (ur hO.dP qj nN) ?_
 rintro _ Vi ⟨TQ,awj,avg,awh,au7,_,rfl,GS,GR,rfl⟩
 refine ba Us [1,2,3,4,5,6,7,8,9]<|aD 7 fun anF an8 agn=>jE (sz:=2) (ps:=[]) (qs:=K.rules) (enc:=iW) (w:= .slice lG K.rules.length lF) [1] [] [] (bw (b:=b64) (T:=81)) (fun s he _=>⟨lG,Ic,Ib,lF,rfl,Gc,fun i p hp=>(Gb i p hp).ext he⟩) (fun p _=>ai rfl) (by simp<;>omega) (fun v67 L67 mC=>?_)
 rw[List.nil_append] at mC
 obtain⟨Sq,Sm,Ub⟩:=mC.form
 subst Ub
 refine iB agn [[2]]<|aD 9 (fun anE an7 Ur=>?_)
 obtain⟨aj6,ajZ,afQ⟩:=hI.2.1.form
 subst afQ
 obtain⟨IF,ID,CH⟩:=hG.2.1.form
 subst CH
 refine jd 1 [9]<|cw Ur<|zD 1<|aD 11 fun abh abZ MY=>jd 1 [9]<|cw MY<|zD 1<|aD 13 fun anD an6 agm=>jd 1 [9]<|cw agm<|zD 1<|bF M6 ⟨_,_,_,_,TQ,Vi,(.slice Sq (K.rules).length Sm),L67⟩ ⟨GS,GR,mC⟩ Nat.zero_lt_one [9,0,1,2,3,4,5,6,7,8] (Sub.refl _)
def pM(m:iu)(i:Nat):Nat→List (List Int)
 |0=>[]
 |j+1=>pM m i j++(bif decide (m.c i j>0) then [[(i:Int),(j:Int)]] else [])
def uV(m:iu)(w:Nat):Nat→List (List Int)
 |0=>[]
 |i+1=>uV m w i++pM m i w
theorem Wl{m:iu}(h:m.c i j>0):pM m i (j+1)=pM m i j++[[(i:Int),(j:Int)]]:=by rw[pM,decide_eq_true h];rfl
theorem Wm{m:iu}(h:¬m.c i j>0):pM m i (j+1)=pM m i j:=by rw[pM,decide_eq_false h];exact List.append_nil _
theorem B8(m:iu)(i:Nat):∀j,(pM m i j).length≤j
 |0=>Nat.le_refl _
 |j+1=>by have:=B8 m i j;rw[pM,List.length_append];cases decide (m.c i j>0)<;>simp<;>omega
theorem B9(m:iu){w:Nat}(hw:w≤4):∀i,(uV m w i).length≤4*i
 |0=>Nat.le_refl _
 |i+1=>by have:=B9 m hw i;have:=B8 m i w;rw[uV,List.length_append];omega
theorem J3(m:iu)(i:Nat):∀j,∀l∈pM m i j,l.length=2
 |0=>fun _ h=>by cases h
 |j+1=>fun l h=>by
  rw[pM] at h
  rcases List.mem_append.1 h with h|h
  ·exact J3 m i j l h
  cases hd:decide (m.c i j>0)
  ·rw[hd] at h;simp at h
  rw[hd] at h;simp at h;rw[h];rfl
theorem Ca(m:iu)(w:Nat):∀i,∀l∈uV m w i,l.length=2
 |0=>fun _ h=>by cases h
 |i+1=>fun l h=>by
  rw[uV] at h
  rcases List.mem_append.1 h with h|h
  ·exact Ca m w i l h
  exact J3 m i w l h
theorem Q7:∀l:List Int,UU l l=true
 | []=>rfl
 |x::l=>by simp[UU,Q7 l]
theorem KP:∀l:List (List Int),EM l l=true
 | []=>rfl
 |x::l=>by simp[EM,Q7,KP l]
theorem asK{a:Int}{ro:Nat→Option Obj}:dO zT 51 [zI a,zI b] ro (.bool (decide (a>0))):=by
 refine bC au [] [] bu<|zD 11<|aH q0 (.bool (decide (a>0))) [] [] [] (Sub.refl _) ⟨_,_,rfl,rfl,rfl,rfl⟩
theorem aeo{rows:List bP}{ro:Nat→Option Obj}(hK:gF ro l K)(hV:gh K)(hR:rows.length≤2)(hB:lB ro l K rows)(hCt:tK):EW zT 50 [.agg ⟨l⟩,.func (.func 51) ⟨[]⟩ ⟨[]⟩] ro [] (fun r Y=>∃zs v e,zs.Perm (ep K (cb K) (dA K.gone K.new K.af) rows)∧r= .tuple ⟨[v,zI e]⟩∧((zs=[]∧v= zS∧e=9∧Y=[])∨(zs≠[]∧e=0∧∀aF,Knows aF Y→LL aF v (uV (az zs) K.after.length K.before.length)))):=by
 obtain⟨v0,v1,v3,v4,v5,v6,v7,vb,fa,fc,hv,rfl,_⟩:=id hK
 refine Ep au [] [] bu fun fr=>zD 2<|jn fun b2=>jd 6 [0]<|alI (vs:=[.agg ⟨[v0,v1,.slice fa 0 fc,v3,v4,v5,v6,v7,zI K.gone,zI K.new,zI K.af,vb]⟩]) [] (fun _ _ h=>h) (WZ hK hV hR hB) ?_
 rintro _ aB Y15 cd ⟨f15,zs,v15,e15,rfl,Jc,hz,afq,he⟩
 have aeT:∀x∈zs,(-4≤x.gone∧x.gone≤4)∧(-4≤x.new∧x.new≤4)∧(0≤x.af∧x.af≤4):=fun x hx=>by obtain⟨i,r,p,_,_,rfl,_⟩:=nA (hz.mem_iff.1 hx);exact qg hV r i p
 have hzl:zs.length≤1250:=by rw[hz.length_eq];exact qW hV _ _ hR
 have hpr:∀x∈zs,∀q,0≤pI x q∧pI x q≤4:=fun x hx=>by obtain⟨i,r,p,_,hp,rfl,_⟩:=nA (hz.mem_iff.1 hx);exact Mx ((kO hV _).2 p hp)
 obtain⟨d0,d1,d2,d3,d4,d5,d6,d7,d8,d9,dh,hf,qj,nN,hr,CI,Hf,I8,bO⟩:=id Jc
 obtain⟨kV,IQ,IN,kz,rfl,IP,Ei,Eh⟩:=CI
 obtain⟨kX,IU,IS,kA,rfl,IT,Ek,Ej⟩:=Hf
 have Fj:=hV.before.1
 have Ik:=hV.after.1
 refine zD 7<|jf [0] Y15 (fun ro4 pe Xq=>?_)
 have hZ1:=afq.lR Xq
 obtain⟨vo,Tb,S9,s9,rfl,Ta,Mf,Me⟩:=hZ1
 refine zD 7<|js 20 (!decide (e15=0)) (fun h5=>?_) (fun h5=>?_)
 ·
  replace h5:=of_decide_eq_false (by simpa using h5)
  have vK:zs=[]∧e15=9:=by rcases he with h| ⟨_,h⟩;exact h;omega
  refine zD 8<|N4 qC.a.a (.tuple ⟨[zS,zI e15]⟩) [1] [] (cd.trans pe) ⟨zs,_,_,hz,rfl,.inl ⟨vK.1,rfl,vK.2,rfl⟩⟩
 replace h5:=of_decide_eq_true (by simpa using h5)
 have vK:zs≠[]∧e15=0:=by rcases he with ⟨_,h⟩|h;omega;exact h
 refine zD 9<|jc (vs:=[.slice vo zs.length s9]) [] (hCt (show bE _ _ _ _ _ from ⟨vo,Tb,S9,s9,rfl,Ta,Mf,Me⟩) (by omega) hpr) ?_
 rintro _ _ ⟨rfl,rfl⟩
 refine jg 0 []<|jn fun pH=>jd 9 [0]<|jl (b:=f15) (off:=0) (m:=13) (vs:=[d0,d1,d2,d3,d4,d5,.slice kV K.before.length kz,.slice kX K.after.length kA,zI K.gone,zI K.new,zI K.af,d8,d9]) 6 ⟨_,_,_,.inl (pe _ _ hf),rfl⟩<|zD 4<|py<|py<|eO [1,1,1,1,1,0,1,0,0] [] (fun(zz:Nat×Value×Cells×(List Value)×Cells)=>[(1,.func (.func 51) ⟨[]⟩ ⟨[]⟩),(4,zS),(5,zI 0),(6,zP f15),(7,.slice vo zs.length s9),(9,zz.2.1),(10,zP pH),(29,zI (K.before.length:Int)),(30,zI (zz.1:Int))]) (fun(zz:Nat×Value×Cells×(List Value)×Cells)=>[.l zz.2.2.1,.l zz.2.2.2.2,.b pH (.cells ⟨[zI ((az zs).c 0 0),zI ((az zs).c 0 1),zI ((az zs).c 0 2),zI ((az zs).c 0 3),zI ((az zs).c 1 0),zI ((az zs).c 1 1),zI ((az zs).c 1 2),zI ((az zs).c 1 3),zI ((az zs).c 2 0),zI ((az zs).c 2 1),zI ((az zs).c 2 2),zI ((az zs).c 2 3),zI ((az zs).c 3 0),zI ((az zs).c 3 1),zI ((az zs).c 3 2),zI ((az zs).c 3 3)]⟩ 112 (0,0)),.b b2 (.cells ⟨[v0,v1,.slice fa 0 fc,v3,v4,v5,v6,v7,zI K.gone,zI K.new,zI K.af,vb]⟩ 38 (0,0)),.l fr]) (fun(zz:Nat×Value×Cells×(List Value)×Cells)=>(zz.1≤K.before.length∧zz.2.2.2.1.length=(uV (az zs) K.after.length zz.1).length)∧ax zz.2.1 1 22 gJ zz.2.2.2.1 zz.2.2.1∧∀aF,Knows aF zz.2.2.2.2→dg (fun w l=>bE aF w 1 cT l) zz.2.2.2.1 (uV (az zs) K.after.length zz.1)) (fun(zz:Nat×Value×Cells×(List Value)×Cells)=>K.before.length-zz.1) (⟨0,zS,[],[],[]⟩) ⟨⟨by dsimp only;omega,rfl⟩,ax.nil _ _ _,fun _ _=> .nil⟩ [1,0,2,3,4] ?_
 rintro⟨i,vO,LO,es,Z⟩ hI K1 bG rest
 dsimp only at hI
 have hil:=B9 (az zs) (w:=K.after.length) (by omega) i
 refine zD 5<|zJ 31 ((i:Int) <(K.before.length:Int)) (fun h6=>?_) fun h6=>?_
 ·
  refine zD 15<|jl (b:=f15) (off:=0) (m:=13) (vs:=[d0,d1,d2,d3,d4,d5,.slice kV K.before.length kz,.slice kX K.after.length kA,zI K.gone,zI K.new,zI K.af,d8,d9]) 7 ⟨_,_,_,.inl (pe _ _ hf),rfl⟩<|zD 4<|eO [1,1,1,1,1,0,1,0,0,1,1,0,0,1,1,0,0] [K1] (fun(zz:Nat×Value×Cells×(List Value)×Cells)=>[(1,.func (.func 51) ⟨[]⟩ ⟨[]⟩),(4,zS),(5,zI 0),(6,zP f15),(7,.slice vo zs.length s9),(9,zz.2.1),(10,zP pH),(11,zI (i:Int)),(29,zI (K.before.length:Int)),(30,zI (i:Int)),(38,zI (K.after.length:Int)),(39,zI (zz.1:Int))]) (fun(zz:Nat×Value×Cells×(List Value)×Cells)=>[.l zz.2.2.1,.l zz.2.2.2.2,.b pH (.cells ⟨[zI ((az zs).c 0 0),zI ((az zs).c 0 1),zI ((az zs).c 0 2),zI ((az zs).c 0 3),zI ((az zs).c 1 0),zI ((az zs).c 1 1),zI ((az zs).c 1 2),zI ((az zs).c 1 3),zI ((az zs).c 2 0),zI ((az zs).c 2 1),zI ((az zs).c 2 2),zI ((az zs).c 2 3),zI ((az zs).c 3 0),zI ((az zs).c 3 1),zI ((az zs).c 3 2),zI ((az zs).c 3 3)]⟩ 112 (0,0)),.b b2 (.cells ⟨[v0,v1,.slice fa 0 fc,v3,v4,v5,v6,v7,zI K.gone,zI K.new,zI K.af,vb]⟩ 38 (0,0)),.l fr]) (fun(zz:Nat×Value×Cells×(List Value)×Cells)=>(zz.1≤K.after.length∧zz.2.2.2.1.length=((uV (az zs) K.after.length i)++(pM (az zs) i zz.1)).length)∧ax zz.2.1 1 22 gJ zz.2.2.2.1 zz.2.2.1∧∀aF,Knows aF zz.2.2.2.2→dg (fun w l=>bE aF w 1 cT l) zz.2.2.2.1 ((uV (az zs) K.after.length i)++(pM (az zs) i zz.1))) (fun(zz:Nat×Value×Cells×(List Value)×Cells)=>K.after.length-zz.1) (⟨0,vO,LO,es,Z⟩) ⟨⟨by dsimp only;omega,by simpa [pM] using hI.1.2⟩,hI.2.1,by simpa [pM] using hI.2.2⟩ [0,1,2,3,4] ?_
  rintro⟨j,vO,LO,es,Z⟩ hJ K2 mg rest
  dsimp only at hJ
  have hjl:=B8 (az zs) i j
  have Xt:=hJ.1.2
  rw[List.length_append] at Xt
  refine zD 5<|zJ 40 ((j:Int) <(K.after.length:Int)) (fun h7=>?_) fun h7=>?_
  ·
   refine zD 10 ?_
   have iZ:=Nv zs i j
   refine zD 4<|Ig (b:=pH) (off:=0) (len:=4) (sz:=4) (i:Int) (by omega)<|Ig (b:=pH) (off:=0+(i:Int).toNat*4) (len:=4) (sz:=1) (j:Int) (by omega)<|px (b:=pH) (off:=0+(i:Int).toNat*4+(j:Int).toNat*1) (m:=1) (vs:=[zI ((az zs).c i j)]) 0 [2] [(pH,.cells ⟨[zI ((az zs).c 0 0),zI ((az zs).c 0 1),zI ((az zs).c 0 2),zI ((az zs).c 0 3),zI ((az zs).c 1 0),zI ((az zs).c 1 1),zI ((az zs).c 1 2),zI ((az zs).c 1 3),zI ((az zs).c 2 0),zI ((az zs).c 2 1),zI ((az zs).c 2 2),zI ((az zs).c 2 3),zI ((az zs).c 3 0),zI ((az zs).c 3 1),zI ((az zs).c 3 2),zI ((az zs).c 3 3)]⟩ 112 (0,0))] (fun s _ hZ=>qu (hZ _ (.head _)) (AP (m:=az zs) (by omega) (by omega)))<|zD 2<|jp (vs:=[zI ((az zs).c i j),zI (zs.length:Int)]) [] [] (fun aB hs hZ=>asK)<|zD 1<|js 50 (decide (((az zs).c i j)>0)) (fun h8=>?_) (fun h8=>?_)
   ·
    refine zD 5<|jn fun Rt=>jn fun b55=>jE (sz:=1) (ps:=es) (qs:=[(.slice (some ⟨Rt,0,none⟩) 2 2:Value)]) (enc:=gJ) (w:= .slice (some ⟨b55,0,none⟩) 1 1) [2] [0] [(b55,.cells ⟨([(.slice (some ⟨Rt,0,none⟩) 2 2:Value)].map gJ).flatten⟩ 22 (0,0))] (hJ.2.1) (fun s _ hZ=>bS [(.slice (some ⟨Rt,0,none⟩) 2 2:Value)] (hZ _ (.head _)) (by intro p hp;rfl)) (by intro p hp;rw[List.mem_singleton] at hp;subst hp;exact ai rfl) (by simp only[List.length_cons,List.length_nil];omega) (fun v56 L56 qH=>?_)
    obtain⟨Ow,Ou,Uc⟩:=qH.form
    subst Uc
    refine zD 3<|ja ((j:Int)+1) (by omega)<|zD 2<|Km mg (⟨j+1,(.slice Ow ((es++[(.slice (some ⟨Rt,0,none⟩) 2 2:Value)])).length Ou),L56,(es++[(.slice (some ⟨Rt,0,none⟩) 2 2:Value)]),Z++[(Rt,.cells ⟨[zI (i:Int),zI (j:Int)]⟩ 3 (0,0))]⟩) ⟨⟨by dsimp only;omega,by dsimp only;rw[Wl (of_decide_eq_true (by assumption)),←List.append_assoc];simp only[List.length_append,List.length_cons,List.length_nil] at*;omega⟩,qH,fun aF hk=>by dsimp only;rw[Wl (of_decide_eq_true (by assumption)),←List.append_assoc];exact(hJ.2.2 aF hk.left).snoc (bV (enc:=cT) (T:=3) [(i:Int),(j:Int)] (hk.right _ (.head _)) (fun _ _=>rfl))⟩ (by dsimp only;omega) [[0],[3,2],[4],[5],[6]] (Sub.refl _)
   refine zD 3<|ja ((j:Int)+1) (by omega)<|zD 2<|bF mg (⟨j+1,vO,LO,es,Z⟩) ⟨⟨by dsimp only;omega,by dsimp only;rw[Wm (of_decide_eq_false (by assumption))];exact hJ.1.2⟩,hJ.2.1,by dsimp only;rw[Wm (of_decide_eq_false (by assumption))];exact hJ.2.2⟩ (by dsimp only;omega) [0,1,2,3,4] (Sub.refl _)
  refine zD 3<|ja ((i:Int)+1) (by omega)<|zD 2<|bF bG (⟨i+1,vO,LO,es,Z⟩) ⟨⟨by dsimp only;omega,by have:=hJ.1.2;rw[show j=K.after.length by omega] at this;exact this⟩,hJ.2.1,by have:=hJ.2.2;rw[show j=K.after.length by omega] at this;exact this⟩ (by dsimp only;omega) [0,1,2,3,4] (Sub.refl _)
 refine zD 9<|aBs qC.a.a (.tuple ⟨[vO,zI 0]⟩) [0,1,4] LO Z (cd.trans pe) ⟨zs,_,_,hz,rfl,.inr ⟨vK.1,rfl,fun aF hk=>⟨es,hI.2.1.lR hk.left,by have:=hI.2.2 aF hk.right;rwa[show i=K.before.length by omega] at this⟩⟩⟩
theorem WX{rows:List bP}{ro:Nat→Option Obj}(hK:gF ro l K)(hV:gh K)(hR:rows.length≤2)(hB:lB ro l K rows)(hCt:tK):EW zT 20 [.agg ⟨l⟩] ro [] (fun r Y=>∃zs v e,zs.Perm (ep K (cb K) (dA K.gone K.new K.af) rows)∧r= .tuple ⟨[v,zI e]⟩∧((zs=[]∧v= zS∧e=9∧Y=[])∨(zs≠[]∧e=0∧∀aF,Knows aF Y→LL aF v (uV (az zs) K.after.length K.before.length)))):=by
 obtain⟨v0,v1,v3,v4,v5,v6,v7,vb,fa,fc,hv,rfl,_⟩:=id hK
 refine Ep au [] [] bu fun fr=>zD 2<|jn fun b1=>jd 6 [0]<|Fg (vs:=[.agg ⟨[v0,v1,.slice fa 0 fc,v3,v4,v5,v6,v7,zI K.gone,zI K.new,zI K.af,vb]⟩,.func (.func 51) ⟨[]⟩ ⟨[]⟩]) [] (fun _ _ h=>h) (aeo hK hV hR hB hCt) ?_
 rintro _ Y5 ⟨zs,v5,e5,hz,rfl,hcs⟩
 refine zD 6<|N4 qC (.tuple ⟨[v5,zI e5]⟩) [0,2] Y5 (Sub.refl _) ⟨zs,v5,e5,hz,rfl,hcs⟩
theorem asC{ro:Nat→Option Obj}(hN:Dn ro vd xs):aqd zT 5 [vd] ro (fun r Y=>r= .bool true∧Y=[]):=by
 have hN0:=hN
 obtain⟨hl,hxn⟩:=hN
 obtain⟨fS,sj,si,fe,rfl,tY,mw,nj⟩:=hl
 refine aBo au (by kernel_rfl) [] bu fun fr=>zD 7<|jc (vs:=[.slice fS xs.length fe]) [] (aUU hN0.1) ?_
 rintro _ X16 ⟨d16,rfl,agJ⟩
 refine zD 5<|jcG (vs:=[zP d16,zI 3,zI 2]) [0] (aUV hN0 agJ (by decide) (by decide)) ?_
 rintro _ aB X18 cd ⟨K,l,rfl,hO,u1,hK,M8⟩
 obtain⟨v0,v1,v3,v4,v5,v6,v7,vb,va,vc,hv,rfl,_,_,_,_,_,hb,ha,hf⟩:=id hK
 obtain⟨jV,Pd,Pb,jP,rfl,Pc,N1,N0⟩:=hb
 obtain⟨jC,Mc,Ma,jq,rfl,Mb,JU,JR⟩:=ha
 obtain⟨iA,B5,B4,gR,rfl,IM,xX,xW⟩:=hf
 have hC:=hO.c
 have hV:=hO.v
 have aud:=hO.y3
 have Xy:=hV.before.1
 have Kz:=hV.after.1
 refine jn fun b4=>yh 0 b4 0 zO [v0,v1,.slice va 0 vc,v3,v4,v5,.slice jV K.before.length jP,.slice jC K.after.length jq,zI K.gone,zI K.new,zI K.af,.slice iA K.facts.length gR] 38 hK.L.all rfl<|jd 9 [0]<|jj 5 [(2,.bool false),(3,zP d16),(4,zP b4),(32,.bool ((decide ((K.before.length:Int)=0))||(decide ((K.after.length:Int)=0))))] (fun gQ=>?_) (fun hj=>?_)
 rotate_left
 refine js 27 (decide ((K.before.length:Int)=0)) (fun h2=>?_) (fun h2=>?_)
 ·
  have lM:=h2
  replace lM:=of_decide_eq_true lM
  refine zD 5<|jw 32 (.bool ((decide ((K.before.length:Int)=0))||(decide ((K.after.length:Int)=0)))) (w:= .bool true) (by rw[h2]<;>rfl) ?_
  exact hj _ (by kernel_rfl) (by kernel_rfl)
 ·
  have lM:=h2
  replace lM:=of_decide_eq_false lM
  refine jd 5 [0]<|jw 32 (.bool ((decide ((K.before.length:Int)=0))||(decide ((K.after.length:Int)=0)))) (w:= .bool (decide ((K.after.length:Int)=0))) (by rw[h2]<;>rfl) ?_
  exact hj _ (by kernel_rfl) (by kernel_rfl)
 refine zD 1<|js 32 ((decide ((K.before.length:Int)=0))||(decide ((K.after.length:Int)=0))) (fun h3=>?_) (fun h3=>?_)
 ·
  try simp only[zB] at h3
  refine zD 3<|Fg [] (fun _ _ h=>h) (E9) ?_
  rintro _ _ ⟨rfl,rfl⟩
  refine jg 0 []<|zD 3<|N4 qC.a (.bool true) [2] [] cd ⟨rfl,rfl⟩
 try simp only[zB] at h3
 refine jd 6 [0]<|jc (vs:=[zP d16,.agg ⟨[v0,v1,.slice va 0 vc,v3,v4,v5,.slice jV K.before.length jP,.slice jC K.after.length jq,zI K.gone,zI K.new,zI K.af,.slice iA K.facts.length gR]⟩]) [1] (aGY (hN0.up cd) M8 (show bE _ _ _ _ _ from ⟨jV,Pd,Pb,jP,rfl,Pc,N1,N0⟩) (show bE _ _ _ _ _ from ⟨jC,Mc,Ma,jq,rfl,Mb,JU,JR⟩) (by omega)) ?_
 rintro _ X36 ⟨gM,rfl,bfI,amq,bf9⟩
 refine jn fun b5=>jd 7 [0,2,0]<|jp (vs:=[.agg ⟨[v0,v1,.slice va 0 vc,v3,v4,v5,.slice jV K.before.length jP,.slice jC K.after.length jq,zI K.gone,zI K.new,zI K.af,.slice iA K.facts.length gR]⟩,.agg ⟨[zI gM.a,zI gM.b,.bool gM.same]⟩]) [] [] (fun aB hs hZ=>aoU (x:=⟨gM.a,gM.b,gM.same⟩) ((show bE _ _ _ _ _ from ⟨iA,B5,B4,gR,rfl,IM,xX,xW⟩).up hs) (by omega))<|zD 1<|js 39 (Dm K.facts gM.a gM.b) (fun h4=>?_) (fun h4=>?_)
 ·
  refine zD 3<|Fg [] (fun _ _ h=>h) (E9) ?_
  rintro _ _ ⟨rfl,rfl⟩
  refine jg 0 []<|zD 3<|N4 qC.a (.bool true) [3] [] cd ⟨rfl,rfl⟩
 refine zD 3<|Ff [1,1,1,1,1,1,1] [] (fun(zz:Nat×Nat×Cells×Cells×Cells×Cells×Value×Value×Value×Value×Value×Value×Value×Value×(Option Addr)×Nat×Value×Value×Value×Value×Value×Value×Value×Value×(Option Addr)×Nat)=>[(2,.bool false),(4,zP b4),(5,zP b5),(6,zP zz.1),(7,zP zz.2.1)]) (fun(zz:Nat×Nat×Cells×Cells×Cells×Cells×Value×Value×Value×Value×Value×Value×Value×Value×(Option Addr)×Nat×Value×Value×Value×Value×Value×Value×Value×Value×(Option Addr)×Nat)=>[.b zz.1 (.cells ⟨[zz.2.2.2.2.2.2.1,zz.2.2.2.2.2.2.2.1,.slice zz.2.2.2.2.2.2.2.2.2.2.2.2.2.2.1 0 zz.2.2.2.2.2.2.2.2.2.2.2.2.2.2.2.1,zz.2.2.2.2.2.2.2.2.1,zz.2.2.2.2.2.2.2.2.2.1,zz.2.2.2.2.2.2.2.2.2.2.1,zz.2.2.2.2.2.2.2.2.2.2.2.1,zz.2.2.2.2.2.2.2.2.2.2.2.2.1,zI K.gone,zI K.new,zI K.af,zz.2.2.2.2.2.2.2.2.2.2.2.2.2.1]⟩ 38 (0,0)),.b zz.2.1 (.cells ⟨[zz.2.2.2.2.2.2.2.2.2.2.2.2.2.2.2.2.1,zz.2.2.2.2.2.2.2.2.2.2.2.2.2.2.2.2.2.1,.slice zz.2.2.2.2.2.2.2.2.2.2.2.2.2.2.2.2.2.2.2.2.2.2.2.2.1 0 zz.2.2.2.2.2.2.2.2.2.2.2.2.2.2.2.2.2.2.2.2.2.2.2.2.2,zz.2.2.2.2.2.2.2.2.2.2.2.2.2.2.2.2.2.2.1,zz.2.2.2.2.2.2.2.2.2.2.2.2.2.2.2.2.2.2.2.1,zz.2.2.2.2.2.2.2.2.2.2.2.2.2.2.2.2.2.2.2.2.1,zz.2.2.2.2.2.2.2.2.2.2.2.2.2.2.2.2.2.2.2.2.2.1,zz.2.2.2.2.2.2.2.2.2.2.2.2.2.2.2.2.2.2.2.2.2.2.1,zI K.gone,zI K.new,zI K.af,zz.2.2.2.2.2.2.2.2.2.2.2.2.2.2.2.2.2.2.2.2.2.2.2.1]⟩ 38 (0,0)),.l zz.2.2.1,.l zz.2.2.2.1,.l zz.2.2.2.2.1,.l zz.2.2.2.2.2.1,.b b5 (.cells ⟨[zI gM.a,zI gM.b,.bool gM.same]⟩ 57 (0,0)),.l X36,.b b4 (.cells ⟨[v0,v1,.slice va 0 vc,v3,v4,v5,.slice jV K.before.length jP,.slice jC K.after.length jq,zI K.gone,zI K.new,zI K.af,.slice iA K.facts.length gR]⟩ 38 (0,0)),.l fr]) (fun(zz:Nat×Nat×Cells×Cells×Cells×Cells×Value×Value×Value×Value×Value×Value×Value×Value×(Option Addr)×Nat×Value×Value×Value×Value×Value×Value×Value×Value×(Option Addr)×Nat)=>(ax zz.2.2.2.2.2.2.2.2.2.2.2.2.2.1 3 57 lP K.facts zz.2.2.1∧ax zz.2.2.2.2.2.2.2.2.2.2.2.2.2.2.2.2.2.2.2.2.2.2.2.1 3 57 lP K.facts zz.2.2.2.2.1)∧(∀kF,Sub aB kF→Knows kF zz.2.2.2.1→∀(vf:Value) (fs:List ez),bE kF vf 3 lP fs→gF kF [zz.2.2.2.2.2.2.1,zz.2.2.2.2.2.2.2.1,.slice zz.2.2.2.2.2.2.2.2.2.2.2.2.2.2.1 0 zz.2.2.2.2.2.2.2.2.2.2.2.2.2.2.2.1,zz.2.2.2.2.2.2.2.2.1,zz.2.2.2.2.2.2.2.2.2.1,zz.2.2.2.2.2.2.2.2.2.2.1,zz.2.2.2.2.2.2.2.2.2.2.2.1,zz.2.2.2.2.2.2.2.2.2.2.2.2.1,zI K.gone,zI K.new,zI K.af,vf] {K with facts:=fs})∧(∀kF,Sub aB kF→Knows kF zz.2.2.2.2.2.1→∀(vf:Value) (fs:List ez),bE kF vf 3 lP fs→gF kF [zz.2.2.2.2.2.2.2.2.2.2.2.2.2.2.2.2.1,zz.2.2.2.2.2.2.2.2.2.2.2.2.2.2.2.2.2.1,.slice zz.2.2.2.2.2.2.2.2.2.2.2.2.2.2.2.2.2.2.2.2.2.2.2.2.1 0 zz.2.2.2.2.2.2.2.2.2.2.2.2.2.2.2.2.2.2.2.2.2.2.2.2.2,zz.2.2.2.2.2.2.2.2.2.2.2.2.2.2.2.2.2.2.1,zz.2.2.2.2.2.2.2.2.2.2.2.2.2.2.2.2.2.2.2.1,zz.2.2.2.2.2.2.2.2.2.2.2.2.2.2.2.2.2.2.2.2.1,zz.2.2.2.2.2.2.2.2.2.2.2.2.2.2.2.2.2.2.2.2.2.1,zz.2.2.2.2.2.2.2.2.2.2.2.2.2.2.2.2.2.2.2.2.2.2.1,zI K.gone,zI K.new,zI K.af,vf] {K with facts:=fs})) ?_ (fun K1 bG=>?_)
 ·
  rintro⟨b6,b7,rk,Fx,lv,vN,fC,fB,fA,fy,fx,fw,fu,ye,fq,fp,dz,dw,dv,du,dt,dr,dq,lE,dk,dj⟩ hJ8 rest
  dsimp only at hJ8
  obtain⟨_,vv,pW⟩:=id hJ8
  refine zD 1<|Ff [1,1,1,1,1,1,1,1] [] (fun(zz:Value×Cells×Value×Cells)=>[(2,.bool false),(4,zP b4),(6,zP b6),(7,zP b7)]) (fun(zz:Value×Cells×Value×Cells)=>[.b b6 (.cells ⟨[fC,fB,.slice fq 0 fp,fA,fy,fx,fw,fu,zI K.gone,zI K.new,zI K.af,zz.1]⟩ 38 (0,0)),.b b7 (.cells ⟨[dz,dw,.slice dk 0 dj,dv,du,dt,dr,dq,zI K.gone,zI K.new,zI K.af,zz.2.2.1]⟩ 38 (0,0)),.l zz.2.1,.l Fx,.l zz.2.2.2,.l vN,.b b5 (.cells ⟨[zI gM.a,zI gM.b,.bool gM.same]⟩ 57 (0,0)),.l X36,.b b4 (.cells ⟨[v0,v1,.slice va 0 vc,v3,v4,v5,.slice jV K.before.length jP,.slice jC K.after.length jq,zI K.gone,zI K.new,zI K.af,.slice iA K.facts.length gR]⟩ 38 (0,0)),.l fr]) (fun(zz:Value×Cells×Value×Cells)=>ax zz.1 3 57 lP (K.facts++[⟨gM.a,gM.b,true⟩]) zz.2.1∧ax zz.2.2.1 3 57 lP (K.facts++[⟨gM.a,gM.b,false⟩]) zz.2.2.2) ?_ (fun K2 mg=>?_)
  ·
   rintro⟨vF1,LF1,vF2,LF2⟩ hJ9 rest
   dsimp only at hJ9
   refine jd 3 [8]<|Fg (vs:=[.agg ⟨[v0,v1,.slice va 0 vc,v3,v4,v5,.slice jV K.before.length jP,.slice jC K.after.length jq,zI K.gone,zI K.new,zI K.af,.slice iA K.facts.length gR]⟩]) [] (fun _ _ h=>h) (AV (K:=K) hK hC hV) ?_
   rintro _ _ ⟨rfl,rfl⟩
   refine jg 0 []<|zD 5<|jf [2,3,4,5] (LF1++(Fx++(LF2++vN))) (fun ro7 hs5 hk6=>?_)
   have hKy:=vv _ hs5 (Knows.left (Knows.right hk6)) _ _ (hJ9.1.lR (Knows.left hk6))
   have hKn:=pW _ hs5 (Knows.right (Knows.right (Knows.right hk6))) _ _ (hJ9.2.lR (Knows.left (Knows.right (Knows.right hk6))))
   replace hK:=hK.up hs5
   have hxa:0≤gM.a∧gM.a <K.before.length:=by omega
   have Qa:0≤gM.b∧gM.b <K.after.length:=by omega
   have hf3:K.facts.length≤3:=by omega
   have hnt:Dm K.facts gM.a gM.b=false:=by assumption
   have hCy:=hC.add (t:=⟨gM.a,gM.b,true⟩) hf3 hxa Qa hnt
   have hCn:=hC.add (t:=⟨gM.a,gM.b,false⟩) hf3 hxa Qa hnt
   have hVy:=hV.add (t:=⟨gM.a,gM.b,true⟩) hf3 hxa Qa
   have hVn:=hV.add (t:=⟨gM.a,gM.b,false⟩) hf3 hxa Qa
   have bev:=Sr (K:=K) (a:=gM.a) (b:=gM.b) hf3 ⟨hxa.1,by omega⟩ Qa.1
   have t1:=Ss hC hV
   have t2:=Ss hCy hVy
   have t3:=Ss hCn hVn
   refine jd 4 [0]<|Fg (vs:=[.agg ⟨[fC,fB,.slice fq 0 fp,fA,fy,fx,fw,fu,zI K.gone,zI K.new,zI K.af,vF1]⟩]) [] (fun _ _ h=>h) (AV (K:=bJ K ⟨gM.a,gM.b,true⟩) hKy hCy hVy) ?_
   rintro _ _ ⟨rfl,rfl⟩
   refine jg 0 []<|jd 9 [1]<|Fg (vs:=[.agg ⟨[dz,dw,.slice dk 0 dj,dv,du,dt,dr,dq,zI K.gone,zI K.new,zI K.af,vF2]⟩]) [] (fun _ _ h=>h) (AV (K:=bJ K ⟨gM.a,gM.b,false⟩) hKn hCn hVn) ?_
   rintro _ _ ⟨rfl,rfl⟩
   refine jg 0 []<|zD 24<|js 94 (decide ((bY (bJ K ⟨gM.a,gM.b,true⟩):Int) <0)) (fun h8=>?_) (fun h8=>?_)
   ·
    have h8g:=h8
    replace h8g:=of_decide_eq_true h8g
    exfalso;omega
   have h8g:=h8
   replace h8g:=of_decide_eq_false h8g
   refine zD 4<|js 98 (decide ((bY (bJ K ⟨gM.a,gM.b,false⟩):Int) <0)) (fun h9=>?_) (fun h9=>?_)
   ·
    have h9g:=h9
    replace h9g:=of_decide_eq_true h9g
    exfalso;omega
   have h9g:=h9
   replace h9g:=of_decide_eq_false h9g
   refine zD 2<|ja ((bY (bJ K ⟨gM.a,gM.b,true⟩):Int)+(bY (bJ K ⟨gM.a,gM.b,false⟩):Int)) (by omega)<|zD 4<|js 104 (!decide (((bY (bJ K ⟨gM.a,gM.b,true⟩):Int)+(bY (bJ K ⟨gM.a,gM.b,false⟩):Int))=(bY K:Int))) (fun Oc=>?_) (fun Oc=>?_)
   ·
    replace Oc:=of_decide_eq_false (by simpa using Oc)
    exfalso;omega
   replace Oc:=of_decide_eq_true (by simpa using Oc)
   refine zD 8<|jj 3 [(2,.bool false),(4,zP b4),(6,zP b6),(9,zI 0),(11,zI 0),(13,zI 0),(110,.bool ((decide ((bY (bJ K ⟨gM.a,gM.b,true⟩):Int)=0))||(decide ((bY (bJ K ⟨gM.a,gM.b,false⟩):Int)>0))))] (fun gQ=>?_) (fun hj=>?_)
   rotate_left
   refine js 107 (decide ((bY (bJ K ⟨gM.a,gM.b,true⟩):Int)=0)) (fun Nc=>?_) (fun Nc=>?_)
   ·
    have ahb:=Nc
    replace ahb:=of_decide_eq_true ahb
    refine zD 3<|jw 110 (.bool ((decide ((bY (bJ K ⟨gM.a,gM.b,true⟩):Int)=0))||(decide ((bY (bJ K ⟨gM.a,gM.b,false⟩):Int)>0)))) (w:= .bool true) (by rw[Nc]<;>rfl) ?_
    exact hj _ (by kernel_rfl) (by kernel_rfl)
   ·
    have ahb:=Nc
    replace ahb:=of_decide_eq_false ahb
    refine zD 3<|jw 110 (.bool ((decide ((bY (bJ K ⟨gM.a,gM.b,true⟩):Int)=0))||(decide ((bY (bJ K ⟨gM.a,gM.b,false⟩):Int)>0)))) (w:= .bool (decide ((bY (bJ K ⟨gM.a,gM.b,false⟩):Int)>0))) (by rw[Nc]<;>rfl) ?_
    exact hj _ (by kernel_rfl) (by kernel_rfl)
   refine zD 1<|js 110 ((decide ((bY (bJ K ⟨gM.a,gM.b,true⟩):Int)=0))||(decide ((bY (bJ K ⟨gM.a,gM.b,false⟩):Int)>0))) (fun DL=>?_) (fun DL=>?_)
   ·
    try simp only[zB] at DL
    refine zD 3<|Fg [] (fun _ _ h=>h) (E9) ?_
    rintro _ _ ⟨rfl,rfl⟩
    refine jg 0 []<|zD 3<|N4 qC.a.a (.bool true) [5] [] (cd.trans hs5) ⟨rfl,rfl⟩
   try simp only[zB] at DL
   refine jd 5 [4]<|Fg (vs:=[.agg ⟨[v0,v1,.slice va 0 vc,v3,v4,v5,.slice jV K.before.length jP,.slice jC K.after.length jq,zI K.gone,zI K.new,zI K.af,.slice iA K.facts.length gR]⟩]) [] (fun _ _ h=>h) (WX hK hV (kL hC) (sH hK hC hV) Bn) ?_
   rintro _ YP ⟨zP,vP,eP,hzP,rfl,hpP⟩
   refine jd 9 [1]<|Fg (vs:=[.agg ⟨[fC,fB,.slice fq 0 fp,fA,fy,fx,fw,fu,zI K.gone,zI K.new,zI K.af,vF1]⟩]) [] (fun _ _ h=>h) (WX hKy hVy (kL hCy) (sH hKy hCy hVy) Bn) ?_
   rintro _ YQ ⟨zQ,vQ,eQ,hzQ,rfl,hpQ⟩
   refine jd 9 [6]<|Fg (vs:=[.agg ⟨[v0,v1,.slice va 0 vc,v3,v4,v5,.slice jV K.before.length jP,.slice jC K.after.length jq,zI K.gone,zI K.new,zI K.af,.slice iA K.facts.length gR]⟩]) [] (fun _ _ h=>h) (Tz hK hV (kL hC) (sH hK hC hV)) ?_
   rintro _ _ ⟨zm,gm,ym,em,hzm,rfl,rfl,hpm⟩
   refine jg 0 []<|zD 3<|jn fun b16=>jd 6 [0,3]<|Fg (vs:=[.agg ⟨[fC,fB,.slice fq 0 fp,fA,fy,fx,fw,fu,zI K.gone,zI K.new,zI K.af,vF1]⟩]) [] (fun _ _ h=>h) (Tz hKy hVy (kL hCy) (sH hKy hCy hVy)) ?_
   rintro _ _ ⟨zn,gn,yn,en,hzn,rfl,rfl,hpn⟩
   refine jg 0 []<|zD 3<|jn fun b17=>jd 4 [0] ?_
   have hT:=aaJ (K:=K) (a:=gM.a) (b:=gM.b) hf3 ⟨hxa.1,by omega⟩ Qa.1 (by omega)
   obtain⟨hnP,hqP⟩:zP≠[]∧eP=0:=by have lq:zP.length=bY (K):=hzP.length_eq;rcases hpP with ⟨e,_⟩|h;exfalso;rw[e,List.length_nil] at lq;omega;exact⟨h.1,by simp_all⟩
   obtain⟨hnQ,hqQ⟩:zQ≠[]∧eQ=0:=by have lq:zQ.length=bY (bJ K ⟨gM.a,gM.b,true⟩):=hzQ.length_eq;rcases hpQ with ⟨e,_⟩|h;exfalso;rw[e,List.length_nil] at lq;omega;exact⟨h.1,by simp_all⟩
   obtain⟨DF,hqm⟩:zm≠[]∧em=0:=by have lq:zm.length=bY (K):=hzm.length_eq;rcases hpm with ⟨e,_⟩|h;exfalso;rw[e,List.length_nil] at lq;omega;exact⟨h.1,by simp_all⟩
   obtain⟨hnn,hqn⟩:zn≠[]∧en=0:=by have lq:zn.length=bY (bJ K ⟨gM.a,gM.b,true⟩):=hzn.length_eq;rcases hpn with ⟨e,_⟩|h;exfalso;rw[e,List.length_nil] at lq;omega;exact⟨h.1,by simp_all⟩
   have aPJ:zQ.Perm (ep K (cb K) (dA K.gone K.new K.af) (gp K)):=by rw[←hT];exact hzQ
   have aBC:zn.Perm (ep K (cb K) (dA K.gone K.new K.af) (gp K)):=by rw[←hT];exact hzn
   have hcn:az zQ=az zP:=(Bo aPJ).trans (Bo hzP).symm
   have Ad:gm=gn∧ym=yn:=by rcases hpm with h|h;exact absurd h.1 DF;rcases hpn with h1|h1;exact absurd h1.1 hnn;exact⟨by rw[h.2.1,h1.2.1];exact Cj ((hzm.trans aBC.symm).map _) (AR DF),by rw[h.2.2.1,h1.2.2.1];exact J9 ((hzm.trans aBC.symm).map _) (AR DF)⟩
   have hlP:=(hpP.resolve_left fun h=>hnP h.1).2.2
   have hlQ:=(hpQ.resolve_left fun h=>hnQ h.1).2.2
   refine zD 1<|jf [3,2] (YP++YQ) (fun azF alZ T8=>?_)
   obtain⟨wsP,hsP,haP⟩:=hlP _ (Knows.left T8)
   have aRs:LL azF vQ (uV (az zP) K.after.length K.before.length):=by have:=hlQ _ (Knows.right T8);rw[hcn] at this;exact this
   obtain⟨wsQ,hsQ,haQ⟩:=aRs
   have Qj:=B9 (az zP) (w:=K.after.length) (by omega) K.before.length
   refine zD 3<|js 134 (decide (eP=0)) (fun Na=>?_) (fun Na=>?_)
   ·
    have Hl:=Na
    replace Hl:=of_decide_eq_true Hl
    refine zD 4<|js 138 (decide (eQ=0)) (fun h17=>?_) (fun h17=>?_)
    ·
     have wL:=h17
     replace wL:=of_decide_eq_true wL
     refine zD 4<|js 142 (decide (em=0)) (fun UC=>?_) (fun UC=>?_)
     ·
      have Hk:=UC
      replace Hk:=of_decide_eq_true Hk
      refine zD 4<|js 146 (decide (en=0)) (fun XH=>?_) (fun XH=>?_)
      ·
       have ag6:=XH
       replace ag6:=of_decide_eq_true ag6
       refine jd 2 [1,0]<|jeq aAT (apP gm ym gn yn)<|zD 2<|js 151 (gm==gn&&(ym==yn&&true)) (fun h20=>?_) (fun h20=>?_)
       ·
        have Jd:=h20
        try simp only[zB] at Jd
        refine zD 2<|jp (vs:=[vP,vQ]) [] [] (fun aB hs hZ=>(show dO _ _ _ _ (.bool true) from by have:=ahT (hsP.up hs) (hsQ.up hs) (haP.imp fun _ _ h=>h.up hs) (haQ.imp fun _ _ h=>h.up hs) (by omega) (by omega) (fun l hl=>by rw[Ca _ _ _ l hl];decide) (fun l hl=>by rw[Ca _ _ _ l hl];decide);rwa[KP] at this)) ?_
        refine zD 2<|Fg [] (fun _ _ h=>h) (E9) ?_
        rintro _ _ ⟨rfl,rfl⟩
        refine jg 0 []<|zD 4<|N4 qC.a.a.a (.bool true) [7] [] ((cd.trans hs5).trans alZ) ⟨rfl,rfl⟩
       have Jd:=h20
       try simp only[zB] at Jd
       simp[Ad.1,Ad.2] at Jd
      have ag6:=XH
      replace ag6:=of_decide_eq_false ag6
      exfalso;omega
     have Hk:=UC
     replace Hk:=of_decide_eq_false Hk
     exfalso;omega
    have wL:=h17
    replace wL:=of_decide_eq_false wL
    exfalso;omega
   have Hl:=Na
   replace Hl:=of_decide_eq_false Hl
   exfalso;omega
  refine jd 13 [0,6,6,1,6,6]<|jp (vs:=[zI gM.a,zI gM.b,.bool true]) [] [] (fun aB hs hZ=>ane)<|aD 7 fun rZ r8 qL=>jn fun b52=>ba qL [1,2,3,4,5,6,7,8,9,10]<|aD 8 fun sN sU ri=>jE (sz:=3) (ps:=K.facts) (qs:=[(⟨gM.a,gM.b,true⟩:ez)]) (enc:=lP) (w:= .slice (some ⟨b52,0,none⟩) 1 1) [3] [0] [(b52,.cells ⟨([(⟨gM.a,gM.b,true⟩:ez)].map lP).flatten⟩ 57 (0,0))] (hJ8.1.1) (fun s _ hZ=>bS [(⟨gM.a,gM.b,true⟩:ez)] (hZ _ (.head _)) (by intro p hp;rfl)) (fun p _=>ai rfl) (by simp<;>omega) (fun v53 L53 ae7=>?_)
  obtain⟨aj7,aj0,auO⟩:=ae7.form
  subst auO
  refine iB ri [[7],[7],[3],[7],[7]]<|zD 1<|jp (vs:=[zI gM.a,zI gM.b,.bool false]) [] [] (fun aB hs hZ=>ane)<|aD 16 fun Aj Av A5=>jn fun b61=>ba A5 [1,2,3,4,5,6,7,8,9,10,11]<|aD 17 fun Yt YH Uq=>jE (sz:=3) (ps:=K.facts) (qs:=[(⟨gM.a,gM.b,false⟩:ez)]) (enc:=lP) (w:= .slice (some ⟨b61,0,none⟩) 1 1) [6] [0] [(b61,.cells ⟨([(⟨gM.a,gM.b,false⟩:ez)].map lP).flatten⟩ 57 (0,0))] (hJ8.1.2) (fun s _ hZ=>bS [(⟨gM.a,gM.b,false⟩:ez)] (hZ _ (.head _)) (by intro p hp;rfl)) (fun p _=>ai rfl) (by simp<;>omega) (fun v62 L62 ae6=>?_)
  obtain⟨aLN,aLv,aR9⟩:=ae6.form
  subst aR9
  refine iB Uq [[8],[8],[8],[8]]<|aD 19 fun abg abY QG=>jd 1 [4]<|iB QG [[8],[8]]<|zD 1<|aD 21 fun Sd Su Up=>jd 1 [5]<|cw Up<|zD 1<|bF mg ⟨(.slice aj7 ((K.facts++[(⟨gM.a,gM.b,true⟩:ez)])).length aj0),L53,(.slice aLN ((K.facts++[(⟨gM.a,gM.b,false⟩:ez)])).length aLv),L62⟩ ⟨ae7,ae6⟩ Nat.zero_lt_one [4,5,2,6,0,7,8,9,10,11] (Sub.refl _)
 refine jd 3 [2,2]<|lJ [1,4,5] ⟨fun z9 t10 zh=>?_,fun z12 t13 agy=>?_,fun z15 t16 CM=>?_,trivial⟩
 ·
  refine jc (vs:=[.agg ⟨[v0,v1,.slice va 0 vc,v3,v4,v5,.slice jV K.before.length jP,.slice jC K.after.length jq,zI K.gone,zI K.new,zI K.af,.slice iA K.facts.length gR]⟩]) [] (gq hK hC) ?_
  rintro _ _ ⟨fC,fB,fA,fy,fx,fw,fu,ye,fq,fp,rk,Fx,rfl,MM,nH,vv,rfl⟩
  have pP:=rn.all (K:=K) ⟨fC,fB,fA,fy,fx,fw,fu,ye,fq,fp,rfl,MM⟩
  refine jg 0 [.l rk,.l Fx]<|ba zh [2,3,4,5]<|lJ [3,4,5] ⟨fun z18 t19 Hj=>?_,fun z21 t22 M4=>?_,fun z24 t25 EI=>?_,trivial⟩
  ·
   refine jc (vs:=[.agg ⟨[v0,v1,.slice va 0 vc,v3,v4,v5,.slice jV K.before.length jP,.slice jC K.after.length jq,zI K.gone,zI K.new,zI K.af,.slice iA K.facts.length gR]⟩]) [] (gq hK hC) ?_
   rintro _ _ ⟨dz,dw,dv,du,dt,dr,dq,lE,dk,dj,lv,vN,rfl,sB,lf,pW,rfl⟩
   have lH:=rn.all (K:=K) ⟨dz,dw,dv,du,dt,dr,dq,lE,dk,dj,rfl,sB⟩
   refine jg 0 [.l lv,.l vN]<|cw Hj<|lJ [4,5] ⟨fun z27 t28 CL=>?_,fun z30 t31 Uz=>?_,trivial⟩
   ·
    refine jn fun b6=>cw CL<|aD 5 fun anO aoh Uy=>jn fun b7=>cw Uy<|aD 6 (fun anN aog agu=>?_)
    obtain⟨u9,u7,MS⟩:=nH.form
    subst MS
    refine yh 1 b6 0 zO [fC,fB,.slice fq 0 fp,fA,fy,fx,fw,fu,zI K.gone,zI K.new,zI K.af,(.slice u9 (K.facts).length u7)] 38 pP rfl<|cw agu<|aD 7 (fun anM aof agt=>?_)
    obtain⟨IG,IE,MQ⟩:=lf.form
    subst MQ
    refine yh 1 b7 0 zO [dz,dw,.slice dk 0 dj,dv,du,dt,dr,dq,zI K.gone,zI K.new,zI K.af,(.slice IG (K.facts).length IE)] 38 lH rfl<|cw agt<|zD 1<|bF bG ⟨b6,b7,rk,Fx,lv,vN,fC,fB,fA,fy,fx,fw,fu,(.slice u9 (K.facts).length u7),fq,fp,dz,dw,dv,du,dt,dr,dq,(.slice IG (K.facts).length IE),dk,dj⟩ ⟨⟨nH,lf⟩,vv,pW⟩ Nat.zero_lt_one [1,0,4,5,2,3,6,7,8,9] (Sub.refl _)
   refine jn fun b7=>cw Uz<|aD 4 fun abl ab3 Hh=>jn fun b6=>cw Hh<|aD 6 (fun Vu VK M0=>?_)
   obtain⟨ayH,ays,aSd⟩:=nH.form
   subst aSd
   refine yh 0 b6 0 zO [fC,fB,.slice fq 0 fp,fA,fy,fx,fw,fu,zI K.gone,zI K.new,zI K.af,(.slice ayH (K.facts).length ays)] 38 pP rfl<|cw M0<|aD 7 (fun abk ab2 Ux=>?_)
   obtain⟨YD,YA,afT⟩:=lf.form
   subst afT
   refine yh 1 b7 0 zO [dz,dw,.slice dk 0 dj,dv,du,dt,dr,dq,zI K.gone,zI K.new,zI K.af,(.slice YD (K.facts).length YA)] 38 lH rfl<|cw Ux<|zD 1<|bF bG ⟨b6,b7,rk,Fx,lv,vN,fC,fB,fA,fy,fx,fw,fu,(.slice ayH (K.facts).length ays),fq,fp,dz,dw,dv,du,dt,dr,dq,(.slice YD (K.facts).length YA),dk,dj⟩ ⟨⟨nH,lf⟩,vv,pW⟩ Nat.zero_lt_one [1,0,4,5,2,3,6,7,8,9] (Sub.refl _)
  ·
   refine jn fun b6=>ba M4 [1,2,3,4,5,6]<|lJ [3,5] ⟨fun z39 t40 Uw=>?_,fun z42 t43 avy=>?_,trivial⟩
   ·
    refine jc (vs:=[.agg ⟨[v0,v1,.slice va 0 vc,v3,v4,v5,.slice jV K.before.length jP,.slice jC K.after.length jq,zI K.gone,zI K.new,zI K.af,.slice iA K.facts.length gR]⟩]) [] (gq hK hC) ?_
    rintro _ _ ⟨dz,dw,dv,du,dt,dr,dq,lE,dk,dj,lv,vN,rfl,sB,lf,pW,rfl⟩
    have lH:=rn.all (K:=K) ⟨dz,dw,dv,du,dt,dr,dq,lE,dk,dj,rfl,sB⟩
    refine jg 0 [.l lv,.l vN]<|cw Uw<|aD 5 fun aWw aXd aac=>jn fun b7=>cw aac<|aD 6 (fun aWv aXc avx=>?_)
    obtain⟨YC,Yy,afR⟩:=nH.form
    subst afR
    refine yh 3 b6 0 zO [fC,fB,.slice fq 0 fp,fA,fy,fx,fw,fu,zI K.gone,zI K.new,zI K.af,(.slice YC (K.facts).length Yy)] 38 pP rfl<|cw avx<|aD 7 (fun aWu aXb avw=>?_)
    obtain⟨aj8,aj1,auQ⟩:=lf.form
    subst auQ
    refine yh 1 b7 0 zO [dz,dw,.slice dk 0 dj,dv,du,dt,dr,dq,zI K.gone,zI K.new,zI K.af,(.slice aj8 (K.facts).length aj1)] 38 lH rfl<|cw avw<|zD 1<|bF bG ⟨b6,b7,rk,Fx,lv,vN,fC,fB,fA,fy,fx,fw,fu,(.slice YC (K.facts).length Yy),fq,fp,dz,dw,dv,du,dt,dr,dq,(.slice aj8 (K.facts).length aj1),dk,dj⟩ ⟨⟨nH,lf⟩,vv,pW⟩ Nat.zero_lt_one [1,0,4,5,2,3,6,7,8,9] (Sub.refl _)
   refine jn fun b7=>ba avy [1,2,3,4,5,6,7]<|aD 3 fun aWt aXa agp=>jc (vs:=[.agg ⟨[v0,v1,.slice va 0 vc,v3,v4,v5,.slice jV K.before.length jP,.slice jC K.after.length jq,zI K.gone,zI K.new,zI K.af,.slice iA K.facts.length gR]⟩]) [] (gq hK hC) ?_
   rintro _ _ ⟨dz,dw,dv,du,dt,dr,dq,lE,dk,dj,lv,vN,rfl,sB,lf,pW,rfl⟩
   have lH:=rn.all (K:=K) ⟨dz,dw,dv,du,dt,dr,dq,lE,dk,dj,rfl,sB⟩
   refine jg 0 [.l lv,.l vN]<|cw agp<|aD 6 (fun anJ aoc Uv=>?_)
   obtain⟨ayF,ayq,aSb⟩:=nH.form
   subst aSb
   refine yh 3 b6 0 zO [fC,fB,.slice fq 0 fp,fA,fy,fx,fw,fu,zI K.gone,zI K.new,zI K.af,(.slice ayF (K.facts).length ayq)] 38 pP rfl<|cw Uv<|aD 7 (fun anI aob Uu=>?_)
   obtain⟨aj7,aj0,auO⟩:=lf.form
   subst auO
   refine yh 3 b7 0 zO [dz,dw,.slice dk 0 dj,dv,du,dt,dr,dq,zI K.gone,zI K.new,zI K.af,(.slice aj7 (K.facts).length aj0)] 38 lH rfl<|cw Uu<|zD 1<|bF bG ⟨b6,b7,rk,Fx,lv,vN,fC,fB,fA,fy,fx,fw,fu,(.slice ayF (K.facts).length ayq),fq,fp,dz,dw,dv,du,dt,dr,dq,(.slice aj7 (K.facts).length aj0),dk,dj⟩ ⟨⟨nH,lf⟩,vv,pW⟩ Nat.zero_lt_one [1,0,4,5,2,3,6,7,8,9] (Sub.refl _)
  refine jn fun b7=>ba EI [1,2,3,4,5,6]<|lJ [3,4] ⟨fun z51 t52 MZ=>?_,fun z54 t55 Ur=>?_,trivial⟩
  ·
   refine jc (vs:=[.agg ⟨[v0,v1,.slice va 0 vc,v3,v4,v5,.slice jV K.before.length jP,.slice jC K.after.length jq,zI K.gone,zI K.new,zI K.af,.slice iA K.facts.length gR]⟩]) [] (gq hK hC) ?_
   rintro _ _ ⟨dz,dw,dv,du,dt,dr,dq,lE,dk,dj,lv,vN,rfl,sB,lf,pW,rfl⟩
   have lH:=rn.all (K:=K) ⟨dz,dw,dv,du,dt,dr,dq,lE,dk,dj,rfl,sB⟩
   refine jg 0 [.l lv,.l vN]<|cw MZ<|aD 4 fun abh abZ MY=>jn fun b6=>cw MY<|aD 6 (fun anD an6 agm=>?_)
   obtain⟨IF,ID,CH⟩:=nH.form
   subst CH
   refine yh 0 b6 0 zO [fC,fB,.slice fq 0 fp,fA,fy,fx,fw,fu,zI K.gone,zI K.new,zI K.af,(.slice IF (K.facts).length ID)] 38 pP rfl<|cw agm<|aD 7 (fun axU ay0 avv=>?_)
   obtain⟨ayE,ayp,aSa⟩:=lf.form
   subst aSa
   refine yh 3 b7 0 zO [dz,dw,.slice dk 0 dj,dv,du,dt,dr,dq,zI K.gone,zI K.new,zI K.af,(.slice ayE (K.facts).length ayp)] 38 lH rfl<|cw avv<|zD 1<|bF bG ⟨b6,b7,rk,Fx,lv,vN,fC,fB,fA,fy,fx,fw,fu,(.slice IF (K.facts).length ID),fq,fp,dz,dw,dv,du,dt,dr,dq,(.slice ayE (K.facts).length ayp),dk,dj⟩ ⟨⟨nH,lf⟩,vv,pW⟩ Nat.zero_lt_one [1,0,4,5,2,3,6,7,8,9] (Sub.refl _)
  refine jn fun b6=>ba Ur [1,2,3,4,5,6,7]<|aD 3 fun axT ayZ agl=>jc (vs:=[.agg ⟨[v0,v1,.slice va 0 vc,v3,v4,v5,.slice jV K.before.length jP,.slice jC K.after.length jq,zI K.gone,zI K.new,zI K.af,.slice iA K.facts.length gR]⟩]) [] (gq hK hC) ?_
  rintro _ _ ⟨dz,dw,dv,du,dt,dr,dq,lE,dk,dj,lv,vN,rfl,sB,lf,pW,rfl⟩
  have lH:=rn.all (K:=K) ⟨dz,dw,dv,du,dt,dr,dq,lE,dk,dj,rfl,sB⟩
  refine jg 0 [.l lv,.l vN]<|cw agl<|aD 6 (fun anC an5 agk=>?_)
  obtain⟨aj5,ajY,auL⟩:=nH.form
  subst auL
  refine yh 2 b6 0 zO [fC,fB,.slice fq 0 fp,fA,fy,fx,fw,fu,zI K.gone,zI K.new,zI K.af,(.slice aj5 (K.facts).length ajY)] 38 pP rfl<|cw agk<|aD 7 (fun anB an4 agj=>?_)
  obtain⟨ayD,ayo,aR7⟩:=lf.form
  subst aR7
  refine yh 3 b7 0 zO [dz,dw,.slice dk 0 dj,dv,du,dt,dr,dq,zI K.gone,zI K.new,zI K.af,(.slice ayD (K.facts).length ayo)] 38 lH rfl<|cw agj<|zD 1<|bF bG ⟨b6,b7,rk,Fx,lv,vN,fC,fB,fA,fy,fx,fw,fu,(.slice aj5 (K.facts).length ajY),fq,fp,dz,dw,dv,du,dt,dr,dq,(.slice ayD (K.facts).length ayo),dk,dj⟩ ⟨⟨nH,lf⟩,vv,pW⟩ Nat.zero_lt_one [1,0,4,5,2,3,6,7,8,9] (Sub.refl _)
 ·
  refine jn fun b6=>ba agy [1,2,3,4]<|lJ [1,5] ⟨fun z63 t64 agi=>?_,fun z66 t67 avu=>?_,trivial⟩
  ·
   refine jc (vs:=[.agg ⟨[v0,v1,.slice va 0 vc,v3,v4,v5,.slice jV K.before.length jP,.slice jC K.after.length jq,zI K.gone,zI K.new,zI K.af,.slice iA K.facts.length gR]⟩]) [] (gq hK hC) ?_
   rintro _ _ ⟨fC,fB,fA,fy,fx,fw,fu,ye,fq,fp,rk,Fx,rfl,MM,nH,vv,rfl⟩
   have pP:=rn.all (K:=K) ⟨fC,fB,fA,fy,fx,fw,fu,ye,fq,fp,rfl,MM⟩
   refine jg 0 [.l rk,.l Fx]<|ba agi [2,3,4,5,6]<|lJ [3,5] ⟨fun z69 t70 aTI=>?_,fun z72 t73 aTG=>?_,trivial⟩
   ·
    refine jc (vs:=[.agg ⟨[v0,v1,.slice va 0 vc,v3,v4,v5,.slice jV K.before.length jP,.slice jC K.after.length jq,zI K.gone,zI K.new,zI K.af,.slice iA K.facts.length gR]⟩]) [] (gq hK hC) ?_
    rintro _ _ ⟨dz,dw,dv,du,dt,dr,dq,lE,dk,dj,lv,vN,rfl,sB,lf,pW,rfl⟩
    have lH:=rn.all (K:=K) ⟨dz,dw,dv,du,dt,dr,dq,lE,dk,dj,rfl,sB⟩
    refine jg 0 [.l lv,.l vN]<|cw aTI<|aD 5 fun aWl aW2 aTF=>jn fun b7=>cw aTF<|aD 6 (fun aWk aW1 avt=>?_)
    obtain⟨ayC,ayn,aR5⟩:=nH.form
    subst aR5
    refine yh 5 b6 0 zO [fC,fB,.slice fq 0 fp,fA,fy,fx,fw,fu,zI K.gone,zI K.new,zI K.af,(.slice ayC (K.facts).length ayn)] 38 pP rfl<|cw avt<|aD 7 (fun axS ayY avs=>?_)
    obtain⟨ayB,aym,aR4⟩:=lf.form
    subst aR4
    refine yh 1 b7 0 zO [dz,dw,.slice dk 0 dj,dv,du,dt,dr,dq,zI K.gone,zI K.new,zI K.af,(.slice ayB (K.facts).length aym)] 38 lH rfl<|cw avs<|zD 1<|bF bG ⟨b6,b7,rk,Fx,lv,vN,fC,fB,fA,fy,fx,fw,fu,(.slice ayC (K.facts).length ayn),fq,fp,dz,dw,dv,du,dt,dr,dq,(.slice ayB (K.facts).length aym),dk,dj⟩ ⟨⟨nH,lf⟩,vv,pW⟩ Nat.zero_lt_one [1,0,4,5,2,3,6,7,8,9] (Sub.refl _)
   refine jn fun b7=>ba aTG [1,2,3,4,5,6,7]<|aD 3 fun axR ayX avr=>jc (vs:=[.agg ⟨[v0,v1,.slice va 0 vc,v3,v4,v5,.slice jV K.before.length jP,.slice jC K.after.length jq,zI K.gone,zI K.new,zI K.af,.slice iA K.facts.length gR]⟩]) [] (gq hK hC) ?_
   rintro _ _ ⟨dz,dw,dv,du,dt,dr,dq,lE,dk,dj,lv,vN,rfl,sB,lf,pW,rfl⟩
   have lH:=rn.all (K:=K) ⟨dz,dw,dv,du,dt,dr,dq,lE,dk,dj,rfl,sB⟩
   refine jg 0 [.l lv,.l vN]<|cw avr<|aD 6 (fun axQ ayW avq=>?_)
   obtain⟨ayA,ayl,aR3⟩:=nH.form
   subst aR3
   refine yh 5 b6 0 zO [fC,fB,.slice fq 0 fp,fA,fy,fx,fw,fu,zI K.gone,zI K.new,zI K.af,(.slice ayA (K.facts).length ayl)] 38 pP rfl<|cw avq<|aD 7 (fun axP ayV avp=>?_)
   obtain⟨As,Ap,CG⟩:=lf.form
   subst CG
   refine yh 3 b7 0 zO [dz,dw,.slice dk 0 dj,dv,du,dt,dr,dq,zI K.gone,zI K.new,zI K.af,(.slice As (K.facts).length Ap)] 38 lH rfl<|cw avp<|zD 1<|bF bG ⟨b6,b7,rk,Fx,lv,vN,fC,fB,fA,fy,fx,fw,fu,(.slice ayA (K.facts).length ayl),fq,fp,dz,dw,dv,du,dt,dr,dq,(.slice As (K.facts).length Ap),dk,dj⟩ ⟨⟨nH,lf⟩,vv,pW⟩ Nat.zero_lt_one [1,0,4,5,2,3,6,7,8,9] (Sub.refl _)
  refine jn fun b7=>ba avu [1,2,3,4,5]<|aD 1 fun aWj aW0 aTE=>jc (vs:=[.agg ⟨[v0,v1,.slice va 0 vc,v3,v4,v5,.slice jV K.before.length jP,.slice jC K.after.length jq,zI K.gone,zI K.new,zI K.af,.slice iA K.facts.length gR]⟩]) [] (gq hK hC) ?_
  rintro _ _ ⟨fC,fB,fA,fy,fx,fw,fu,ye,fq,fp,rk,Fx,rfl,MM,nH,vv,rfl⟩
  have pP:=rn.all (K:=K) ⟨fC,fB,fA,fy,fx,fw,fu,ye,fq,fp,rfl,MM⟩
  refine jg 0 [.l rk,.l Fx]<|ba aTE [2,3,4,5,6,7]<|aD 3 fun aWi aWZ aTD=>jc (vs:=[.agg ⟨[v0,v1,.slice va 0 vc,v3,v4,v5,.slice jV K.before.length jP,.slice jC K.after.length jq,zI K.gone,zI K.new,zI K.af,.slice iA K.facts.length gR]⟩]) [] (gq hK hC) ?_
  rintro _ _ ⟨dz,dw,dv,du,dt,dr,dq,lE,dk,dj,lv,vN,rfl,sB,lf,pW,rfl⟩
  have lH:=rn.all (K:=K) ⟨dz,dw,dv,du,dt,dr,dq,lE,dk,dj,rfl,sB⟩
  refine jg 0 [.l lv,.l vN]<|cw aTD<|aD 6 (fun aWh aWY avo=>?_)
  obtain⟨aj4,ajX,auK⟩:=nH.form
  subst auK
  refine yh 5 b6 0 zO [fC,fB,.slice fq 0 fp,fA,fy,fx,fw,fu,zI K.gone,zI K.new,zI K.af,(.slice aj4 (K.facts).length ajX)] 38 pP rfl<|cw avo<|aD 7 (fun aWg aWX aTC=>?_)
  obtain⟨aj3,ajW,auJ⟩:=lf.form
  subst auJ
  refine yh 5 b7 0 zO [dz,dw,.slice dk 0 dj,dv,du,dt,dr,dq,zI K.gone,zI K.new,zI K.af,(.slice aj3 (K.facts).length ajW)] 38 lH rfl<|cw aTC<|zD 1<|bF bG ⟨b6,b7,rk,Fx,lv,vN,fC,fB,fA,fy,fx,fw,fu,(.slice aj4 (K.facts).length ajX),fq,fp,dz,dw,dv,du,dt,dr,dq,(.slice aj3 (K.facts).length ajW),dk,dj⟩ ⟨⟨nH,lf⟩,vv,pW⟩ Nat.zero_lt_one [1,0,4,5,2,3,6,7,8,9] (Sub.refl _)
 refine jn fun b7=>ba CM [1,2,3,4]<|lJ [1,4] ⟨fun z85 t86 aTA=>?_,fun z88 t89 aTy=>?_,trivial⟩
 ·
  refine jc (vs:=[.agg ⟨[v0,v1,.slice va 0 vc,v3,v4,v5,.slice jV K.before.length jP,.slice jC K.after.length jq,zI K.gone,zI K.new,zI K.af,.slice iA K.facts.length gR]⟩]) [] (gq hK hC) ?_
  rintro _ _ ⟨fC,fB,fA,fy,fx,fw,fu,ye,fq,fp,rk,Fx,rfl,MM,nH,vv,rfl⟩
  have pP:=rn.all (K:=K) ⟨fC,fB,fA,fy,fx,fw,fu,ye,fq,fp,rfl,MM⟩
  refine jg 0 [.l rk,.l Fx]<|ba aTA [2,3,4,5,6]<|lJ [3,4] ⟨fun z91 t92 avn=>?_,fun z94 t95 aTv=>?_,trivial⟩
  ·
   refine jc (vs:=[.agg ⟨[v0,v1,.slice va 0 vc,v3,v4,v5,.slice jV K.before.length jP,.slice jC K.after.length jq,zI K.gone,zI K.new,zI K.af,.slice iA K.facts.length gR]⟩]) [] (gq hK hC) ?_
   rintro _ _ ⟨dz,dw,dv,du,dt,dr,dq,lE,dk,dj,lv,vN,rfl,sB,lf,pW,rfl⟩
   have lH:=rn.all (K:=K) ⟨dz,dw,dv,du,dt,dr,dq,lE,dk,dj,rfl,sB⟩
   refine jg 0 [.l lv,.l vN]<|cw avn<|aD 4 fun aWd aWU avm=>jn fun b6=>cw avm<|aD 6 (fun aWc aWT aTu=>?_)
   obtain⟨ayz,ayk,aR1⟩:=nH.form
   subst aR1
   refine yh 0 b6 0 zO [fC,fB,.slice fq 0 fp,fA,fy,fx,fw,fu,zI K.gone,zI K.new,zI K.af,(.slice ayz (K.facts).length ayk)] 38 pP rfl<|cw aTu<|aD 7 (fun aWb aWS aTt=>?_)
   obtain⟨ayy,ayj,aR0⟩:=lf.form
   subst aR0
   refine yh 5 b7 0 zO [dz,dw,.slice dk 0 dj,dv,du,dt,dr,dq,zI K.gone,zI K.new,zI K.af,(.slice ayy (K.facts).length ayj)] 38 lH rfl<|cw aTt<|zD 1<|bF bG ⟨b6,b7,rk,Fx,lv,vN,fC,fB,fA,fy,fx,fw,fu,(.slice ayz (K.facts).length ayk),fq,fp,dz,dw,dv,du,dt,dr,dq,(.slice ayy (K.facts).length ayj),dk,dj⟩ ⟨⟨nH,lf⟩,vv,pW⟩ Nat.zero_lt_one [1,0,4,5,2,3,6,7,8,9] (Sub.refl _)
  refine jn fun b6=>ba aTv [1,2,3,4,5,6,7]<|aD 3 fun aKX aNj agC=>jc (vs:=[.agg ⟨[v0,v1,.slice va 0 vc,v3,v4,v5,.slice jV K.before.length jP,.slice jC K.after.length jq,zI K.gone,zI K.new,zI K.af,.slice iA K.facts.length gR]⟩]) [] (gq hK hC) ?_
  rintro _ _ ⟨dz,dw,dv,du,dt,dr,dq,lE,dk,dj,lv,vN,rfl,sB,lf,pW,rfl⟩
  have lH:=rn.all (K:=K) ⟨dz,dw,dv,du,dt,dr,dq,lE,dk,dj,rfl,sB⟩
  refine jg 0 [.l lv,.l vN]<|cw agC<|aD 6 (fun aql aqW agB=>?_)
  obtain⟨ayx,ayi,aRY⟩:=nH.form
  subst aRY
  refine yh 2 b6 0 zO [fC,fB,.slice fq 0 fp,fA,fy,fx,fw,fu,zI K.gone,zI K.new,zI K.af,(.slice ayx (K.facts).length ayi)] 38 pP rfl<|cw agB<|aD 7 (fun aqk aqV agA=>?_)
  obtain⟨VF,VD,afZ⟩:=lf.form
  subst afZ
  refine yh 5 b7 0 zO [dz,dw,.slice dk 0 dj,dv,du,dt,dr,dq,zI K.gone,zI K.new,zI K.af,(.slice VF (K.facts).length VD)] 38 lH rfl<|cw agA<|zD 1<|bF bG ⟨b6,b7,rk,Fx,lv,vN,fC,fB,fA,fy,fx,fw,fu,(.slice ayx (K.facts).length ayi),fq,fp,dz,dw,dv,du,dt,dr,dq,(.slice VF (K.facts).length VD),dk,dj⟩ ⟨⟨nH,lf⟩,vv,pW⟩ Nat.zero_lt_one [1,0,4,5,2,3,6,7,8,9] (Sub.refl _)
 refine jn fun b6=>ba aTy [1,2,3,4,5]<|aD 1 fun aKW aNi aFN=>jc (vs:=[.agg ⟨[v0,v1,.slice va 0 vc,v3,v4,v5,.slice jV K.before.length jP,.slice jC K.after.length jq,zI K.gone,zI K.new,zI K.af,.slice iA K.facts.length gR]⟩]) [] (gq hK hC) ?_
 rintro _ _ ⟨fC,fB,fA,fy,fx,fw,fu,ye,fq,fp,rk,Fx,rfl,MM,nH,vv,rfl⟩
 have pP:=rn.all (K:=K) ⟨fC,fB,fA,fy,fx,fw,fu,ye,fq,fp,rfl,MM⟩
 refine jg 0 [.l rk,.l Fx]<|ba aFN [2,3,4,5,6,7]<|aD 3 fun aKV aNh aFM=>jc (vs:=[.agg ⟨[v0,v1,.slice va 0 vc,v3,v4,v5,.slice jV K.before.length jP,.slice jC K.after.length jq,zI K.gone,zI K.new,zI K.af,.slice iA K.facts.length gR]⟩]) [] (gq hK hC) ?_
 rintro _ _ ⟨dz,dw,dv,du,dt,dr,dq,lE,dk,dj,lv,vN,rfl,sB,lf,pW,rfl⟩
 have lH:=rn.all (K:=K) ⟨dz,dw,dv,du,dt,dr,dq,lE,dk,dj,rfl,sB⟩
 refine jg 0 [.l lv,.l vN]<|cw aFM<|aD 6 (fun aKU aNg agz=>?_)
 obtain⟨VE,VC,afY⟩:=nH.form
 subst afY
 refine yh 4 b6 0 zO [fC,fB,.slice fq 0 fp,fA,fy,fx,fw,fu,zI K.gone,zI K.new,zI K.af,(.slice VE (K.facts).length VC)] 38 pP rfl<|cw agz<|aD 7 (fun aKT aNf aFL=>?_)
 obtain⟨anW,anV,aDh⟩:=lf.form
 subst aDh
 refine yh 5 b7 0 zO [dz,dw,.slice dk 0 dj,dv,du,dt,dr,dq,zI K.gone,zI K.new,zI K.af,(.slice anW (K.facts).length anV)] 38 lH rfl<|cw aFL<|zD 1<|bF bG ⟨b6,b7,rk,Fx,lv,vN,fC,fB,fA,fy,fx,fw,fu,(.slice VE (K.facts).length VC),fq,fp,dz,dw,dv,du,dt,dr,dq,(.slice anW (K.facts).length anV),dk,dj⟩ ⟨⟨nH,lf⟩,vv,pW⟩ Nat.zero_lt_one [1,0,4,5,2,3,6,7,8,9] (Sub.refl _)
theorem GF(W:World)(hN:Dn (fun b=>W.heap[b]?) vd xs) {Post:Value→World→Prop}
 (QF:∀w:World,(∀(b:Nat) (o:Obj),W.heap[b]?=some o→w.heap[b]?=some o)→w.os=W.os→w.output=W.output→Post (.bool true) w):
 ∃N last o w' t',runNT zT (N+1) (solo (G (Frame.enter zT 5 ⟨[vd]⟩ .normal) []) W) #[]=(.ended o w',t')∧runN zT N (solo (G (Frame.enter zT 5 ⟨[vd]⟩ .normal) []) W)= .next last∧step zT last= .ended o w'∧Good zT Post last o w' t':=by
 have ha:aQ ⟨fun b=>W.heap[b]?,[]⟩ W:=⟨fun _ _ h=>h,(fun _ _ h=>(by cases h)),by simp,(fun _ _ h=>(by cases h))⟩
 exact aca ha (asC hN _ _ _ fun v Y w qE pY tN EC=>by
  obtain⟨rfl,rfl⟩:=qE
  exact QF w (fun b o hb=>pY.ro b o hb) tN EC)
end Go.L
