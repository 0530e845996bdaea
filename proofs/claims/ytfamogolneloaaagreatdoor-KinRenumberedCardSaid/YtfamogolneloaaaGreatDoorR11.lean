/- Part 11 of the proof. -/
import Derived.Test.YtfamogolneloaaaGreatDoorR10
set_option maxRecDepth 100000
set_option linter.all false
namespace Go.L
open Go Go.Conc Go.Proofs
variable {K K':aI} {f:Nat→Nat} {l z z1:List Value} {F fs:List cU} {s xs:List Int} {i b ck j bC sz na r dep by1 fc:Nat} {n o:Int} {T R:Nat→Nat→Int} {q p:Nat→Int} {κ α β:Type} {seen:List Nat} {ag:Bool} {v0 v1 v3 v5 v6 v7 vb vd:Value}
def ajv[DecidableEq κ](r:Nat)(kv:κ→Value)(k:κ)(F:List (κ×Value))(b:Nat)(L:Cells):Prop:=
 ∃es ck i u,L=[(r,.map es ck)]∧tE kv F es ck∧sw k F 0=some (i,u)∧(es.toList.map (·.born))[i]?=some b
theorem ajv.own[DecidableEq κ]{kv:κ→Value}{k:κ}{F:List (κ×Value)}{L:Cells}(h:ajv r kv k F b L):j6 r kv F L:=by
 obtain⟨es,ck,_,_,h1,h2,_⟩:=h
 exact⟨es,ck,h1,h2⟩
def meV(P:Program)(n:Nat)(p:Oper)(e:Env):Option (TypeId×TypeId×Value×Value):=match p.op with
 | .mapEntry T x y=>match aY P T with
  |some ⟨.map K E,_,_,_⟩=>match bn n e x with
   |some m=>match bn n e y with
    |some k=>some (K,E,m,k)
    |none=>none
   |none=>none
  |_=>none
 |_=>none
def esV(n:Nat)(p:Oper)(e:Env):Option (Value×Value×Value):=match p.op with
 | .entryStore _ x y z=>match bn n e x with
  |some m=>match bn n e y with
   |some b=>match bn n e z with
    |some v=>some (m,b,v)
    |none=>none
   |none=>none
  |none=>none
 |_=>none
theorem A2[DecidableEq κ]{k:κ}{v:Value}:∀ {F:List (κ×Value)} {i:Nat},sw k F i=none→sw k (F++[(k,v)]) i=some (i+F.length,v)
 | [],i,_=>by simp[sw]
 |x::l,i,h=>by
  simp only[sw] at h
  split at h
  ·cases h
  rename_i hk
  rw[List.cons_append,sw,if_neg hk,A2 h,List.length_cons,show i+1+l.length=i+(l.length+1) by omega]
theorem W9{kv:κ→Value}{k:κ}{v:Value}:∀(es:List MapEntry) (F:List (κ×Value)) (i:Nat) {u:Value},F[i]?=some (k,u)→es.map (fun e=>(e.key,e.val))=F.map (fun x=>(kv x.1,x.2))→(es.modify i fun e=>{e with val:=v}).map (fun e=>(e.key,e.val))=(tN k v F i).map (fun x=>(kv x.1,x.2))
 | [],[],_,_,h,_=>by simp at h
 | [],_::_,_,_,_,h=>by simp at h
 |_::_,[],_,_,_,h=>by simp at h
 |e::es,x::F,0,_,h1,h=>by
  simp only[List.map_cons,List.cons.injEq,Prod.mk.injEq] at h
  simp at h1;subst h1
  simp[tN,h.2,h.1.1]
 |e::es,x::F,i+1,_,h1,h=>by
  simp only[List.map_cons,List.cons.injEq] at h
  simp at h1
  simp[tN,h.1,W9 es F i h1 h.2]
theorem H5{v:Value}:∀(es:List MapEntry) (i:Nat),(es.modify i fun e=>{e with val:=v}).map (·.born)=es.map (·.born)
 | [],i=>by simp
 |e::es,0=>by simp
 |e::es,i+1=>by simp[H5 es i]
theorem Bj{kx:Value}:∀(es:List MapEntry) (i:Nat),(es.modify i fun e=>{e with key:=kx}).map (·.born)=es.map (·.born)
 | [],i=>by simp
 |e::es,0=>by simp
 |e::es,i+1=>by simp[Bj es i]
theorem Xa{kv:κ→Value}{k:κ}:∀(es:List MapEntry) (F:List (κ×Value)) (i:Nat) {u:Value},F[i]?=some (k,u)→es.map (fun e=>(e.key,e.val))=F.map (fun x=>(kv x.1,x.2))→(es.modify i fun e=>{e with key:=kv k}).map (fun e=>(e.key,e.val))=F.map (fun x=>(kv x.1,x.2))
 | [],[],_,_,h,_=>by simp at h
 | [],_::_,_,_,_,h=>by simp at h
 |_::_,[],_,_,_,h=>by simp at h
 |e::es,x::F,0,_,h1,h=>by
  simp only[List.map_cons,List.cons.injEq,Prod.mk.injEq] at h
  simp at h1;subst h1
  simp[h.2,h.1.2]
 |e::es,x::F,i+1,_,h1,h=>by
  simp only[List.map_cons,List.cons.injEq] at h
  simp at h1
  simp[h.1,Xa es F i h1 h.2]
theorem YA{es eE:Array MapEntry}(h:∀e∈es.toList,e.born <ck)(hb:eE.toList.map (·.born)=es.toList.map (·.born)):∀e∈eE.toList,e.born <ck:=fun e he=>by
 have:e.born∈eE.toList.map (·.born):=List.mem_map_of_mem he
 rw[hb] at this
 obtain⟨e2,h3,h4⟩:=List.mem_map.1 this
 rw[←h4];exact h e2 h3
section
variable {X:Cx} {o:Option JS}
theorem jSk{f:Oper→Env→Option β}{r:β}{Φ:Cells→Prop}(ps:List Nat)(B:Cells)(hv:fq X.n f o=some r)(hB:ei ps o=some B)
 (hy:∀p e,f p e=some r→(∀c,p.op≠ .defer c)∧∀(R:Cells) (Q:Next→St→Prop) (E:Halt→St→Prop),(∀L',Φ L'→Q .skip ⟨X.ro,L'++R⟩)→bP X.P (execOp (ev X.n e) p) ⟨X.ro,B++R⟩ Q E)
 (hj:∀L',Φ L'→J X (nv ps undef L' o)):J X o:=by
 obtain⟨ops,i,todo,k,e,w,kn,p,rfl,ho,hw,hc⟩:=dB hv
 intro bW
 have hp:=bI hB
 obtain⟨hd,ht⟩:=hy p e hc
 have:ab X.C X.fn X.aB ops (i::todo) (KQ X k) (A X.n e X.D) ⟨X.ro,B++den (dF ps 0 w)⟩:=by
  refine bS X.hC ho hw hd<|ht _ _ _ fun L' qt=>?_
  have:=hj L' qt
  rw[ou ho] at this
  have:=this bW
  simp only[JP,gF] at this
  show ab _ _ _ _ _ _ _ _
  rw[←aX] at this
  exact this
 have hle:(⟨X.ro,B++den (dF ps 0 w)⟩:St).le ⟨X.ro,den w⟩:=⟨[],by rw[List.append_nil];exact hp,fun b o hb=> .inl hb⟩
 exact this.more X.hC hle
theorem jme[DecidableEq κ]{kv:κ→Value}{F:List (κ×Value)}{K E:TypeId}{L:Cells}{d:TypeDesc}(i:Nat)(k:κ)(hk:Sf X.P K kv)(te:TF X.P E d sz bC z ag)(hm:j6 r kv F L)
 (hj:∀F1 b c L',(((∃u,sw k F 0=some u)∧F1=F)∨(sw k F 0=none∧F1=F++[(k,OF z ag)]))→ajv r kv k F1 b L'→J X (nv [i] (.tuple ⟨[c,zI (b:Int)]⟩) L' o))
 (hv:fq X.n (meV X.P X.n) o=some (K,E,.map (some r),kv k):=by kernel_rfl)(hB:ei [i] o=some L:=by kernel_rfl):J X o:=by
 refine jS (Φ:=fun v L'=>∃F1 b c,(((∃u,sw k F 0=some u)∧F1=F)∨(sw k F 0=none∧F1=F++[(k,OF z ag)]))∧ajv r kv k F1 b L'∧v= .tuple ⟨[c,zI (b:Int)]⟩) [i] _ hv hB (fun p e hf=>?_) (fun v L' qt=>?_)
 ·unfold meV at hf
  split at hf<;>try (cases hf;done)
  rename_i T x y aA
  split at hf<;>try (cases hf;done)
  rename_i K' E' _ _ _ dV
  split at hf<;>try (cases hf;done)
  rename_i m hx
  split at hf<;>try (cases hf;done)
  rename_i k' hy
  simp only[Option.some.injEq,Prod.mk.injEq] at hf
  obtain⟨rfl,rfl,rfl,rfl⟩:=hf
  obtain⟨bgN,tf⟩:=av dV
  refine⟨by rw[aA];simp,fun R Q E hQ=>?_⟩
  obtain⟨es,ck,rfl,Ct⟩:=hm
  simp only[execOp,aA,Instr.mapEntry,aa,aZ tf,aE hx,aE hy]
  refine cG (.inr (List.mem_append_left _ List.mem_cons_self)) rfl rfl ?_
  simp only[aa]
  refine hk.chk _ _ ?_
  simp only[aa]
  refine hk.find k _ F Ct.1 ?_
  cases xT:sw k F 0 with
  |some u=>
   obtain⟨j,u⟩:=u
   have SA:=qH xT
   simp only[Nat.sub_zero] at SA
   have h1:(es.toList.map (fun e=>(e.key,e.val)))[j]?=some (kv k,u):=by rw[Ct.1];simp[SA.2]
   simp only[List.getElem?_map,Array.getElem?_toList] at h1
   cases he:es[j]? with
   |none=>rw[he] at h1;cases h1
   |some e1=>
    rw[he] at h1
    simp only[Option.map_some,Option.some.injEq,Prod.mk.injEq] at h1
    simp only[aa,Instr.keyThatStays,he,Option.map_some,Option.getD_some,h1.1,hk.stay,if_true,ae]
    refine eH (L:=[]) rfl rfl rfl ?_
    simp only[ae]
    refine hQ _ [(r,_)] ⟨F,e1.born,u,.inl ⟨⟨_,xT⟩,rfl⟩,⟨_,_,j,u,rfl,⟨?_,?_,?_⟩,xT,?_⟩,rfl⟩
    ·rw[Array.toList_modify];exact Xa _ _ _ SA.2 Ct.1
    ·rw[Array.toList_modify,Bj];exact Ct.2.1
    ·exact YA Ct.2.2 (by rw[Array.toList_modify,Bj])
    rw[Array.toList_modify,Bj,List.getElem?_map,Array.getElem?_toList,he];rfl
  |none=>
   simp only[aa,kg te]
   refine eH (L:=[]) rfl rfl rfl ?_
   simp only[ae]
   have hlen:es.toList.length=F.length:=by have:=congrArg List.length Ct.1;simpa using this
   refine hQ _ [(r,_)] ⟨_,ck,_,.inr ⟨xT,rfl⟩,⟨_,_,F.length,_,rfl,⟨?_,?_,?_⟩,by have:=A2 (v:=OF z ag) xT;rwa[Nat.zero_add] at this,?_⟩,rfl⟩
   ·simp only[Array.toList_push,List.map_append,Ct.1];rfl
   ·simp only[Array.toList_push,List.map_append,List.map_cons,List.map_nil]
    refine List.nodup_append.2 ⟨Ct.2.1,by simp,?_⟩
    intro a ha b hb
    obtain⟨e2,h3,rfl⟩:=List.mem_map.1 ha
    have:=Ct.2.2 e2 h3
    simp only[List.mem_singleton] at hb
    omega
   ·intro e1 h1
    simp only[Array.toList_push,List.mem_append,List.mem_singleton] at h1
    rcases h1 with h1|rfl
    ·have:=Ct.2.2 e1 h1;omega
    exact Nat.lt_succ_self _
   simp only[Array.toList_push,List.map_append,List.map_cons,List.map_nil]
   rw[List.getElem?_append_right (by simp[hlen])]
   simp[hlen]
 obtain⟨F1,b,c,h1,h2,rfl⟩:=qt
 exact hj F1 b c L' h1 h2
theorem jes[DecidableEq κ]{kv:κ→Value}{F:List (κ×Value)}{L:Cells}{k:κ}(i:Nat)(v:Value)(hm:ajv r kv k F b L)(hj:∀L',j6 r kv (mC k v F) L'→J X (nv [i] undef L' o))
 (hv:fq X.n (esV X.n) o=some (.map (some r),zI (b:Int),v):=by kernel_rfl)(hB:ei [i] o=some L:=by kernel_rfl):J X o:=by
 refine jSk (Φ:=j6 r kv (mC k v F)) [i] _ hv hB (fun p e hf=>?_) hj
 unfold esV at hf
 split at hf<;>try (cases hf;done)
 rename_i T x y zz aA
 split at hf<;>try (cases hf;done)
 rename_i m hx
 split at hf<;>try (cases hf;done)
 rename_i b' hy
 split at hf<;>try (cases hf;done)
 rename_i v' hz
 simp only[Option.some.injEq,Prod.mk.injEq] at hf
 obtain⟨rfl,rfl,rfl⟩:=hf
 refine⟨by rw[aA];simp,fun R Q E hQ=>?_⟩
 obtain⟨es,ck,j,u,rfl,Ct,xT,hb⟩:=hm
 have SA:=qH xT
 simp only[Nat.sub_zero] at SA
 simp only[execOp,aA,Instr.entryStore,aa,aE hx,aE hy,aE hz]
 refine cG (.inr (List.mem_append_left _ List.mem_cons_self)) rfl rfl ?_
 have aSl:es.findIdx? (fun e=>(e.born:Int)==(b:Int))=some j:=by
  rw[List.getElem?_map,Array.getElem?_toList] at hb
  obtain⟨e1,he,rfl⟩:=Option.map_eq_some_iff.1 hb
  obtain⟨h1,h2⟩:=Array.getElem?_eq_some_iff.1 he
  refine Array.findIdx?_eq_some_iff_getElem.2 ⟨h1,by simp[h2],fun q hq=>?_⟩
  have mo:=Ct.2.1
  have:=List.pairwise_iff_getElem.1 mo q j (by simp;omega) (by simp;omega) hq
  simp only[List.getElem_map,Array.getElem_toList,h2] at this
  simp only[beq_iff_eq]
  omega
 simp only[aa,asInt,asIntOf,ae,aSl]
 refine eH (L:=[]) rfl rfl rfl ?_
 show Q .skip _
 refine hQ [(r,_)] ⟨_,_,rfl,?_,?_,?_⟩
 ·rw[Array.toList_modify,mC,xT];exact W9 _ _ _ SA.2 Ct.1
 ·rw[Array.toList_modify,H5];exact Ct.2.1
 exact YA Ct.2.2 (by rw[Array.toList_modify,H5])
end
abbrev v4(a b c d:Int):Value:= .agg ⟨[zI a,zI b,zI c,zI d]⟩
theorem aHn{P:Program}{T:TypeId}(tf:TF P T (.array 4 3) sz bC z ag)(t3:TF P 3 (.int .i64) 1 by1 z1 false)(a b c d a' b' c' d':Int):
 EqD P (dep+2) T (v4 a b c d) (v4 a' b' c' d') (a==a'&&(b==b'&&(c==c'&&(d==d'&&true)))):=by
 intro α s k Q E
 rw[Op.equalIn]
 simp only[aa,aZ tf,cg t3]
 simp only[Std.Legacy.Range.forIn_eq_forIn_range',Std.Legacy.Range.size,Nat.sub_zero,Nat.add_sub_cancel,Nat.div_one,List.range'_succ,List.range'_zero,List.forIn_cons,List.forIn_nil,aa,Nat.zero_add,Nat.mul_one]
 have p (l:List Value) (o:Nat) (v:Value) (h:nth l o=some v):Il P 3 l o v:=ku t3 h
 rw[p _ 0 (zI a) rfl];simp only[aa]
 rw[p _ 0 (zI a') rfl];simp only[aa]
 rw[oh t3 a a']
 cases ha:a==a' with
 |false=>simp only[Bool.not_false,if_true,ae,aa,Bool.false_and]
 |true=>
 simp only[Bool.not_true,Bool.false_eq_true,if_false,ae,Bool.true_and,aa]
 rw[p _ 1 (zI b) rfl];simp only[aa]
 rw[p _ 1 (zI b') rfl];simp only[aa]
 rw[oh t3 b b']
 cases hb:b==b' with
 |false=>simp only[Bool.not_false,if_true,ae,aa,Bool.false_and]
 |true=>
 simp only[Bool.not_true,Bool.false_eq_true,if_false,ae,Bool.true_and,aa]
 rw[p _ 2 (zI c) rfl];simp only[aa]
 rw[p _ 2 (zI c') rfl];simp only[aa]
 rw[oh t3 c c']
 cases hc:c==c' with
 |false=>simp only[Bool.not_false,if_true,ae,aa,Bool.false_and]
 |true=>
 simp only[Bool.not_true,Bool.false_eq_true,if_false,ae,Bool.true_and,aa]
 rw[p _ 3 (zI d) rfl];simp only[aa]
 rw[p _ 3 (zI d') rfl];simp only[aa]
 rw[oh t3 d d']
 cases hd:d==d' with
 |false=>simp only[Bool.not_false,if_true,ae,aa,Bool.false_and]
 |true=>simp only[Bool.not_true,Bool.false_eq_true,if_false,ae,Bool.true_and,aa]
theorem ck4{P:Program}{T:TypeId}(tf:TF P T (.array 4 3) sz bC z ag)(t3:TF P 3 (.int .i64) 1 by1 z1 false)(a b c d:Int):CkD P (dep+2) T (v4 a b c d):=by
 intro bb α K s Q E
 rw[Instr.checkKey]
 simp only[aa,aZ tf]
 simp only[Std.Legacy.Range.forIn_eq_forIn_range',Std.Legacy.Range.size,Nat.sub_zero,Nat.add_sub_cancel,Nat.div_one,List.range'_succ,List.range'_zero,List.forIn_cons,List.forIn_nil,aa,Nat.zero_add,cg t3,Nat.zero_mul,Nat.mul_one]
 have p (l:List Value) (o:Nat) (v:Value) (h:nth l o=some v):Il P 3 l o v:=ku t3 h
 rw[p _ 0 (zI a) rfl];simp only[aa];rw[HT t3 a bb];simp only[ae,aa,cg t3,Nat.mul_one]
 rw[p _ 1 (zI b) rfl];simp only[aa];rw[HT t3 b bb];simp only[ae,aa,cg t3,Nat.mul_one]
 rw[p _ 2 (zI c) rfl];simp only[aa];rw[HT t3 c bb];simp only[ae,aa,cg t3,Nat.mul_one]
 rw[p _ 3 (zI d) rfl];simp only[aa];rw[HT t3 d bb];simp only[ae,aa]
abbrev P4:=Int×Int×Int×Int
abbrev It(x:P4):Value:=v4 x.1 x.2.1 x.2.2.1 x.2.2.2
theorem aeY:Sf zT 113 It:=aeX (ny Tryz.typeInfo113 Tryz.underlying113 rfl rfl rfl rfl rfl rfl) (fun k=>⟨_,rfl⟩)
 (fun k=>ck4 (dep:=9998) (ny Tryz.typeInfo113 Tryz.underlying113 rfl rfl rfl rfl rfl rfl) mL _ _ _ _)
 (fun a b=>by
  have h:=aHn (dep:=9998) (ny Tryz.typeInfo113 Tryz.underlying113 rfl rfl rfl rfl rfl rfl) mL a.1 a.2.1 a.2.2.1 a.2.2.2 b.1 b.2.1 b.2.2.1 b.2.2.2
  have e:(a.1==b.1&&(a.2.1==b.2.1&&(a.2.2.1==b.2.2.1&&(a.2.2.2==b.2.2.2&&true))))=decide (a=b):=by
   rcases a with ⟨x,y,z,t⟩;rcases b with ⟨u,v,w,r⟩
   rw[Bool.eq_iff_iff];simp
  rwa[e] at h)
 (fun k=>by simp[Instr.sameBits])
structure fy where
 c:Nat→Nat→Int
abbrev zi(m:fy):List Value:=[zI (m.c 0 0),zI (m.c 0 1),zI (m.c 0 2),zI (m.c 0 3),zI (m.c 1 0),zI (m.c 1 1),zI (m.c 1 2),zI (m.c 1 3),zI (m.c 2 0),zI (m.c 2 1),zI (m.c 2 2),zI (m.c 2 3),zI (m.c 3 0),zI (m.c 3 1),zI (m.c 3 2),zI (m.c 3 3)]
theorem AG{m:fy}{a:Nat}(h:a <4)(k:b <4):nth (zi m) (0+(a:Int).toNat*4+(b:Int).toNat*1)=some (zI (m.c a b)):=by
 rcases AI h with rfl|rfl|rfl|rfl<;>rcases AI k with rfl|rfl|rfl|rfl<;>rfl
def rO(m:fy)(a b:Nat)(v:Int):fy:=⟨fun i j=>if i=a∧j=b then v else m.c i j⟩
theorem alM{m:fy}{a:Nat}{v:Int}(h:a <4)(k:b <4):dC (zi m) (0+(a:Int).toNat*4+(b:Int).toNat*1) [zI v]=zi (rO m a b v):=by
 rcases AI h with rfl|rfl|rfl|rfl<;>rcases AI k with rfl|rfl|rfl|rfl<;>rfl
theorem alN{m:fy}{a:Nat}{v:Value}(h:a <4)(k:b <4):Nat.ble ((0+(a:Int).toNat*4+(b:Int).toNat*1)+[v].length) (zi m).length=true:=by
 rcases AI h with rfl|rfl|rfl|rfl<;>rcases AI k with rfl|rfl|rfl|rfl<;>rfl
def pI(x:ai):Nat→Int
 |0=>x.w0
 |1=>x.w1
 |2=>x.w2
 |_=>x.w3
def aw(zs:List ai):fy:=⟨fun i j=>((zs.filter fun x=>decide (pI x i=(j:Int)+1)).length:Int)⟩
theorem C1(zs:List ai)(i j:Nat):0≤(aw zs).c i j∧(aw zs).c i j≤zs.length:=by
 have:=List.length_filter_le (fun x=>decide (pI x i=(j:Int)+1)) zs
 simp only[aw];omega
theorem Bc{zs ys:List ai}(h:zs.Perm ys):aw zs=aw ys:=by
 simp only[aw,(h.filter _).length_eq]
theorem xp{r:bF}(hp:∀i,0≤p i∧p i≤4)(q:Nat):0≤pI (cw K r i p) q∧pI (cw K r i p) q≤4:=match q with
 |0=>hp 0
 |1=>hp 1
 |2=>hp 2
 |_+3=>hp 3
def qQ:Prop:=∀ {ro:Nat→Option Obj} {v:Value} {zs:List ai},bE ro v 8 cu zs→zs.length≤100000→(∀x∈zs,∀q,0≤pI x q∧pI x q≤4)→eG zT 54 [v] ro [] (fun r Y=>r= .agg ⟨zi (aw zs)⟩∧Y=[])
def mT(m:fy)(n:Int)(i:Nat):Nat→List (List Int)
 |0=>[]
 |j+1=>mT m n i j++(bif decide (m.c i j=n) then [[(i:Int),(j:Int)]] else [])
def pz(m:fy)(n:Int)(w:Nat):Nat→List (List Int)
 |0=>[]
 |i+1=>pz m n w i++mT m n i w
theorem W0{m:fy}(h:m.c i j=n):mT m n i (j+1)=mT m n i j++[[(i:Int),(j:Int)]]:=by rw[mT,decide_eq_true h];rfl
theorem W5{m:fy}(h:¬m.c i j=n):mT m n i (j+1)=mT m n i j:=by rw[mT,decide_eq_false h];exact List.append_nil _
theorem Ca(m:fy)(n:Int)(i:Nat):∀j,(mT m n i j).length≤j
 |0=>Nat.le_refl _
 |j+1=>by have:=Ca m n i j;rw[mT,List.length_append];cases decide (m.c i j=n)<;>simp<;>omega
theorem KB(m:fy)(n:Int){w:Nat}(hw:w≤4):∀i,(pz m n w i).length≤4*i
 |0=>Nat.le_refl _
 |i+1=>by have:=KB m n hw i;have:=Ca m n i w;rw[pz,List.length_append];omega
theorem ama{rows:List bF}{ro:Nat→Option Obj}(hK:fP ro l K)(hV:fe K)(hR:rows.length≤2)(hB:ia ro l K rows)(hCt:qQ):BF zT 63 [.agg ⟨l⟩,.func (.func 65) ⟨[]⟩ ⟨[]⟩] ro [] (fun r Y=>∃zs v e,zs.Perm (cR K (aV K) (cy K.gone K.new K.af) rows)∧r= .tuple ⟨[v,zI e]⟩∧((zs=[]∧v= zS∧e=9∧Y=[])∨(zs≠[]∧e=0∧∀aG,Knows aG Y→LL aG v (pz (aw zs) ((zs.length:Nat):Int) K.after.length K.before.length)))):=by
 obtain⟨v0,v1,v3,v4,v5,v6,v7,vb,fa,fc,hv,rfl,_⟩:=id hK
 refine yW au [] [] ba fun fr=>zD 2<|jn fun b2=>jd 6 [0]<|amo (vs:=[.agg ⟨[v0,v1,.slice fa 0 fc,v3,v4,v5,v6,v7,zI K.gone,zI K.new,zI K.af,vb]⟩]) [] (fun _ _ h=>h) (Xp hK hV hR hB) ?_
 rintro _ aC Y15 bY ⟨f15,zs,v15,e15,rfl,CH,hz,aga,he⟩
 have Ji:∀x∈zs,(-4≤x.gone∧x.gone≤4)∧(-4≤x.new∧x.new≤4)∧(0≤x.af∧x.af≤4):=fun x hx=>by obtain⟨i,r,p,_,_,rfl,_⟩:=eR (hz.mem_iff.1 hx);exact kN hV r i p
 have Ua:zs.length≤1250:=by rw[hz.length_eq];exact lJ hV _ _ hR
 have hpr:∀x∈zs,∀q,0≤pI x q∧pI x q≤4:=fun x hx=>by obtain⟨i,r,p,_,hp,rfl,_⟩:=eR (hz.mem_iff.1 hx);exact xp ((gi hV _).2 p hp)
 obtain⟨d0,d1,d2,d3,d4,d5,d6,d7,d8,d9,dh,hf,p9,nC,hr,Cy,Hk,Jo,bU⟩:=id CH
 obtain⟨kI,IZ,IX,jY,rfl,IY,Em,Ek⟩:=Cy
 obtain⟨kJ,I4,I2,jZ,rfl,I3,Eo,En⟩:=Hk
 have AS:=hV.before.1
 have DM:=hV.after.1
 refine zD 7<|jf [0] Y15 (fun ro4 oU XS=>?_)
 have UL:=aga.kZ XS
 obtain⟨mP,B1,BZ,lR,rfl,B0,yL,yK⟩:=UL
 refine zD 7<|js 20 (!decide (e15=0)) (fun h5=>?_) (fun h5=>?_)
 ·
  replace h5:=of_decide_eq_false (by simpa using h5)
  have oV:zs=[]∧e15=9:=by rcases he with h| ⟨_,h⟩;exact h;omega
  refine zD 8<|Ja qC.a.a (.tuple ⟨[zS,zI e15]⟩) [1] [] (bY.trans oU) ⟨zs,_,_,hz,rfl,.inl ⟨oV.1,rfl,oV.2,rfl⟩⟩
 replace h5:=of_decide_eq_true (by simpa using h5)
 have oV:zs≠[]∧e15=0:=by rcases he with ⟨_,h⟩|h;omega;exact h
 refine zD 9<|jc (vs:=[.slice mP zs.length lR]) [] (hCt (show bE _ _ _ _ _ from ⟨mP,B1,BZ,lR,rfl,B0,yL,yK⟩) (by omega) hpr) ?_
 rintro _ _ ⟨rfl,rfl⟩
 refine jg 0 []<|jn fun mb=>jd 9 [0]<|jl (b:=f15) (off:=0) (m:=13) (vs:=[d0,d1,d2,d3,d4,d5,.slice kI K.before.length jY,.slice kJ K.after.length jZ,zI K.gone,zI K.new,zI K.af,d8,d9]) 6 ⟨_,_,_,.inl (oU _ _ hf),rfl⟩<|zD 4<|oH<|oH<|dW [1,1,1,1,1,0,1,0,0] [] (fun(zz:Nat×Value×Cells×(List Value)×Cells)=>[(1,.func (.func 65) ⟨[]⟩ ⟨[]⟩),(4,zS),(5,zI 0),(6,zP f15),(7,.slice mP zs.length lR),(9,zz.2.1),(10,zP mb),(29,zI (K.before.length:Int)),(30,zI (zz.1:Int))]) (fun(zz:Nat×Value×Cells×(List Value)×Cells)=>[.l zz.2.2.1,.l zz.2.2.2.2,.b mb (.cells ⟨[zI ((aw zs).c 0 0),zI ((aw zs).c 0 1),zI ((aw zs).c 0 2),zI ((aw zs).c 0 3),zI ((aw zs).c 1 0),zI ((aw zs).c 1 1),zI ((aw zs).c 1 2),zI ((aw zs).c 1 3),zI ((aw zs).c 2 0),zI ((aw zs).c 2 1),zI ((aw zs).c 2 2),zI ((aw zs).c 2 3),zI ((aw zs).c 3 0),zI ((aw zs).c 3 1),zI ((aw zs).c 3 2),zI ((aw zs).c 3 3)]⟩ 123 (0,0)),.b b2 (.cells ⟨[v0,v1,.slice fa 0 fc,v3,v4,v5,v6,v7,zI K.gone,zI K.new,zI K.af,vb]⟩ 40 (0,0)),.l fr]) (fun(zz:Nat×Value×Cells×(List Value)×Cells)=>(zz.1≤K.before.length∧zz.2.2.2.1.length=(pz (aw zs) ((zs.length:Nat):Int) K.after.length zz.1).length)∧az zz.2.1 1 22 gh zz.2.2.2.1 zz.2.2.1∧∀aG,Knows aG zz.2.2.2.2→dg (fun w l=>bE aG w 1 cA l) zz.2.2.2.1 (pz (aw zs) ((zs.length:Nat):Int) K.after.length zz.1)) (fun(zz:Nat×Value×Cells×(List Value)×Cells)=>K.before.length-zz.1) (⟨0,zS,[],[],[]⟩) ⟨⟨by dsimp only;omega,rfl⟩,az.nil _ _ _,fun _ _=> .nil⟩ [1,0,2,3,4] ?_
 rintro⟨i,vO,LO,es,Z⟩ hI K1 bK rest
 dsimp only at hI
 have hil:=KB (aw zs) ((zs.length:Nat):Int) (w:=K.after.length) (by omega) i
 refine zD 5<|zJ 31 ((i:Int) <(K.before.length:Int)) (fun h6=>?_) fun h6=>?_
 ·
  refine zD 15<|jl (b:=f15) (off:=0) (m:=13) (vs:=[d0,d1,d2,d3,d4,d5,.slice kI K.before.length jY,.slice kJ K.after.length jZ,zI K.gone,zI K.new,zI K.af,d8,d9]) 7 ⟨_,_,_,.inl (oU _ _ hf),rfl⟩<|zD 4<|dW [1,1,1,1,1,0,1,0,0,1,1,0,0,1,1,0,0] [K1] (fun(zz:Nat×Value×Cells×(List Value)×Cells)=>[(1,.func (.func 65) ⟨[]⟩ ⟨[]⟩),(4,zS),(5,zI 0),(6,zP f15),(7,.slice mP zs.length lR),(9,zz.2.1),(10,zP mb),(11,zI (i:Int)),(29,zI (K.before.length:Int)),(30,zI (i:Int)),(38,zI (K.after.length:Int)),(39,zI (zz.1:Int))]) (fun(zz:Nat×Value×Cells×(List Value)×Cells)=>[.l zz.2.2.1,.l zz.2.2.2.2,.b mb (.cells ⟨[zI ((aw zs).c 0 0),zI ((aw zs).c 0 1),zI ((aw zs).c 0 2),zI ((aw zs).c 0 3),zI ((aw zs).c 1 0),zI ((aw zs).c 1 1),zI ((aw zs).c 1 2),zI ((aw zs).c 1 3),zI ((aw zs).c 2 0),zI ((aw zs).c 2 1),zI ((aw zs).c 2 2),zI ((aw zs).c 2 3),zI ((aw zs).c 3 0),zI ((aw zs).c 3 1),zI ((aw zs).c 3 2),zI ((aw zs).c 3 3)]⟩ 123 (0,0)),.b b2 (.cells ⟨[v0,v1,.slice fa 0 fc,v3,v4,v5,v6,v7,zI K.gone,zI K.new,zI K.af,vb]⟩ 40 (0,0)),.l fr]) (fun(zz:Nat×Value×Cells×(List Value)×Cells)=>(zz.1≤K.after.length∧zz.2.2.2.1.length=((pz (aw zs) ((zs.length:Nat):Int) K.after.length i)++(mT (aw zs) ((zs.length:Nat):Int) i zz.1)).length)∧az zz.2.1 1 22 gh zz.2.2.2.1 zz.2.2.1∧∀aG,Knows aG zz.2.2.2.2→dg (fun w l=>bE aG w 1 cA l) zz.2.2.2.1 ((pz (aw zs) ((zs.length:Nat):Int) K.after.length i)++(mT (aw zs) ((zs.length:Nat):Int) i zz.1))) (fun(zz:Nat×Value×Cells×(List Value)×Cells)=>K.after.length-zz.1) (⟨0,vO,LO,es,Z⟩) ⟨⟨by dsimp only;omega,by simpa [mT] using hI.1.2⟩,hI.2.1,by simpa [mT] using hI.2.2⟩ [0,1,2,3,4] ?_
  rintro⟨j,vO,LO,es,Z⟩ hJ K2 mr rest
  dsimp only at hJ
  have hjl:=Ca (aw zs) ((zs.length:Nat):Int) i j
  have XV:=hJ.1.2
  rw[List.length_append] at XV
  refine zD 5<|zJ 40 ((j:Int) <(K.after.length:Int)) (fun h7=>?_) fun h7=>?_
  ·
   refine zD 10 ?_
   have iV:=C1 zs i j
   refine zD 4<|GM (b:=mb) (off:=0) (len:=4) (sz:=4) (i:Int) (by omega)<|GM (b:=mb) (off:=0+(i:Int).toNat*4) (len:=4) (sz:=1) (j:Int) (by omega)<|nS (b:=mb) (off:=0+(i:Int).toNat*4+(j:Int).toNat*1) (m:=1) (vs:=[zI ((aw zs).c i j)]) 0 [2] [(mb,.cells ⟨[zI ((aw zs).c 0 0),zI ((aw zs).c 0 1),zI ((aw zs).c 0 2),zI ((aw zs).c 0 3),zI ((aw zs).c 1 0),zI ((aw zs).c 1 1),zI ((aw zs).c 1 2),zI ((aw zs).c 1 3),zI ((aw zs).c 2 0),zI ((aw zs).c 2 1),zI ((aw zs).c 2 2),zI ((aw zs).c 2 3),zI ((aw zs).c 3 0),zI ((aw zs).c 3 1),zI ((aw zs).c 3 2),zI ((aw zs).c 3 3)]⟩ 123 (0,0))] (fun s _ hZ=>oD (hZ _ (.head _)) (AG (m:=aw zs) (by omega) (by omega)))<|zD 2<|jp (vs:=[zI ((aw zs).c i j),zI (zs.length:Int)]) [] [] (fun aC hs hZ=>att)<|zD 1<|js 50 (decide (((aw zs).c i j)=(zs.length:Int))) (fun h8=>?_) (fun h8=>?_)
   ·
    refine zD 5<|jn fun R5=>jn fun b55=>jq (sz:=1) (ps:=es) (qs:=[(.slice (some ⟨R5,0,none⟩) 2 2:Value)]) (enc:=gh) (w:= .slice (some ⟨b55,0,none⟩) 1 1) [2] [0] [(b55,.cells ⟨([(.slice (some ⟨R5,0,none⟩) 2 2:Value)].map gh).flatten⟩ 22 (0,0))] (hJ.2.1) (fun s _ hZ=>bX [(.slice (some ⟨R5,0,none⟩) 2 2:Value)] (hZ _ (.head _)) (by intro p hp;rfl)) (by intro p hp;rw[List.mem_singleton] at hp;subst hp;exact aj rfl) (by simp only[List.length_cons,List.length_nil];omega) (fun v56 L56 qx=>?_)
    obtain⟨OQ,OO,UB⟩:=qx.form
    subst UB
    refine zD 3<|ja ((j:Int)+1) (by omega)<|zD 2<|KR mr (⟨j+1,(.slice OQ ((es++[(.slice (some ⟨R5,0,none⟩) 2 2:Value)])).length OO),L56,(es++[(.slice (some ⟨R5,0,none⟩) 2 2:Value)]),Z++[(R5,.cells ⟨[zI (i:Int),zI (j:Int)]⟩ 3 (0,0))]⟩) ⟨⟨by dsimp only;omega,by dsimp only;rw[W0 (of_decide_eq_true (by assumption)),←List.append_assoc];simp only[List.length_append,List.length_cons,List.length_nil] at*;omega⟩,qx,fun aG hk=>by dsimp only;rw[W0 (of_decide_eq_true (by assumption)),←List.append_assoc];exact(hJ.2.2 aG hk.left).snoc (bR (enc:=cA) (T:=3) [(i:Int),(j:Int)] (hk.right _ (.head _)) (fun _ _=>rfl))⟩ (by dsimp only;omega) [[0],[3,2],[4],[5],[6]] (Sub.refl _)
   refine zD 3<|ja ((j:Int)+1) (by omega)<|zD 2<|bJ mr (⟨j+1,vO,LO,es,Z⟩) ⟨⟨by dsimp only;omega,by dsimp only;rw[W5 (of_decide_eq_false (by assumption))];exact hJ.1.2⟩,hJ.2.1,by dsimp only;rw[W5 (of_decide_eq_false (by assumption))];exact hJ.2.2⟩ (by dsimp only;omega) [0,1,2,3,4] (Sub.refl _)
  refine zD 3<|ja ((i:Int)+1) (by omega)<|zD 2<|bJ bK (⟨i+1,vO,LO,es,Z⟩) ⟨⟨by dsimp only;omega,by have:=hJ.1.2;rw[show j=K.after.length by omega] at this;exact this⟩,hJ.2.1,by have:=hJ.2.2;rw[show j=K.after.length by omega] at this;exact this⟩ (by dsimp only;omega) [0,1,2,3,4] (Sub.refl _)
 refine zD 9<|aBV qC.a.a (.tuple ⟨[vO,zI 0]⟩) [0,1,4] LO Z (bY.trans oU) ⟨zs,_,_,hz,rfl,.inr ⟨oV.1,rfl,fun aG hk=>⟨es,hI.2.1.kZ hk.left,by have:=hI.2.2 aG hk.right;rwa[show i=K.before.length by omega] at this⟩⟩⟩
structure w9 where
 f:Bool
 a:Int
 b:Int
 w:Int
def abi(m:fy)(n:Int)(i j:Nat):Int:=max (m.c i j) (n-m.c i j)
def Bo(m:fy)(n:Int)(i:Nat)(s:w9):Nat→w9
 |0=>s
 |j+1=>if abi m n i j <(Bo m n i s j).w then ⟨true,i,j,abi m n i j⟩ else Bo m n i s j
def abj(m:fy)(n:Int)(w:Nat):Nat→w9
 |0=>⟨false,0,0,n⟩
 |i+1=>Bo m n i (abj m n w i) w
def VB(s:w9):Int×Int×Int×Int:=bif s.f then (s.a,s.b,s.w,0) else (0,0,0,11)
theorem awX{m:fy}{s:w9}{f:Bool}{a b w:Int}(h:(⟨f,a,b,w⟩:w9)=Bo m n i s j)(h2:abi m n i j <w):(⟨true,i,j,abi m n i j⟩:w9)=Bo m n i s (j+1):=by rw[Bo,←h,if_pos h2]
theorem ai6{m:fy}{s:w9}{f:Bool}{a b w:Int}(h:(⟨f,a,b,w⟩:w9)=Bo m n i s j)(h2:¬abi m n i j <w):(⟨f,a,b,w⟩:w9)=Bo m n i s (j+1):=by rw[Bo,←h,if_neg h2]
theorem atr{rows:List bF}{ro:Nat→Option Obj}(hK:fP ro l K)(hV:fe K)(hR:rows.length≤2)(hB:ia ro l K rows)(hCt:qQ):BF zT 22 [.agg ⟨l⟩] ro [] (fun r Y=>∃zs v e,zs.Perm (cR K (aV K) (cy K.gone K.new K.af) rows)∧r= .tuple ⟨[v,zI e]⟩∧((zs=[]∧v= zS∧e=9∧Y=[])∨(zs≠[]∧e=0∧∀aG,Knows aG Y→LL aG v (pz (aw zs) ((zs.length:Nat):Int) K.after.length K.before.length)))):=by
 obtain⟨v0,v1,v3,v4,v5,v6,v7,vb,fa,fc,hv,rfl,_⟩:=id hK
 refine yW au [] [] ba fun fr=>zD 2<|jn fun b1=>jd 6 [0]<|Jb (vs:=[.agg ⟨[v0,v1,.slice fa 0 fc,v3,v4,v5,v6,v7,zI K.gone,zI K.new,zI K.af,vb]⟩,.func (.func 65) ⟨[]⟩ ⟨[]⟩]) [] (fun _ _ h=>h) (ama hK hV hR hB hCt) ?_
 rintro _ Y5 ⟨zs,v5,e5,hz,rfl,hcs⟩
 refine zD 6<|Ja qC (.tuple ⟨[v5,zI e5]⟩) [0,2] Y5 (Sub.refl _) ⟨zs,v5,e5,hz,rfl,hcs⟩
theorem aPW{rows:List bF}{ro:Nat→Option Obj}(hK:fP ro l K)(hV:fe K)(hR:rows.length≤2)(hB:ia ro l K rows)(hCt:qQ):BF zT 40 [.agg ⟨l⟩] ro [] (fun r Y=>∃zs a b w e,zs.Perm (cR K (aV K) (cy K.gone K.new K.af) rows)∧Y=[]∧r= .tuple ⟨[zI a,zI b,zI w,zI e]⟩∧((zs=[]∧a=0∧b=0∧w=0∧e=9)∨(zs≠[]∧(a,b,w,e)=VB (abj (aw zs) ((zs.length:Nat):Int) K.after.length K.before.length)))):=by
 obtain⟨v0,v1,v3,v4,v5,v6,v7,vb,fa,fc,hv,rfl,_⟩:=id hK
 refine yW au [] [] ba fun fr=>zD 2<|jn fun b1=>jd 8 [0]<|amo (vs:=[.agg ⟨[v0,v1,.slice fa 0 fc,v3,v4,v5,v6,v7,zI K.gone,zI K.new,zI K.af,vb]⟩]) [] (fun _ _ h=>h) (Xp hK hV hR hB) ?_
 rintro _ aC Y14 bY ⟨f14,zs,v14,NO,rfl,CH,hz,Us,he⟩
 have Ji:∀x∈zs,(-4≤x.gone∧x.gone≤4)∧(-4≤x.new∧x.new≤4)∧(0≤x.af∧x.af≤4):=fun x hx=>by obtain⟨i,r,p,_,_,rfl,_⟩:=eR (hz.mem_iff.1 hx);exact kN hV r i p
 have Ua:zs.length≤1250:=by rw[hz.length_eq];exact lJ hV _ _ hR
 have hpr:∀x∈zs,∀q,0≤pI x q∧pI x q≤4:=fun x hx=>by obtain⟨i,r,p,_,hp,rfl,_⟩:=eR (hz.mem_iff.1 hx);exact xp ((gi hV _).2 p hp)
 obtain⟨d0,d1,d2,d3,d4,d5,d6,d7,d8,d9,dh,hf,p9,nC,hr,Cy,Hk,Jo,bU⟩:=id CH
 obtain⟨kI,IZ,IX,jY,rfl,IY,Em,Ek⟩:=Cy
 obtain⟨kJ,I4,I2,jZ,rfl,I3,Eo,En⟩:=Hk
 have AS:=hV.before.1
 have DM:=hV.after.1
 refine zD 7<|jf [0] Y14 (fun ro4 oU XS=>?_)
 have UL:=Us.kZ XS
 obtain⟨mP,B1,BZ,lR,rfl,B0,yL,yK⟩:=UL
 refine zD 7<|js 20 (!decide (NO=0)) (fun h5=>?_) (fun h5=>?_)
 ·
  replace h5:=of_decide_eq_false (by simpa using h5)
  have oV:zs=[]∧NO=9:=by rcases he with h| ⟨_,h⟩;exact h;omega
  refine zD 10<|Ja qC.a.a (.tuple ⟨[zI 0,zI 0,zI 0,zI NO]⟩) [1] [] (bY.trans oU) ⟨zs,_,_,_,_,hz,rfl,rfl,.inl ⟨oV.1,rfl,rfl,rfl,oV.2⟩⟩
 replace h5:=of_decide_eq_true (by simpa using h5)
 have oV:zs≠[]∧NO=0:=by rcases he with ⟨_,h⟩|h;omega;exact h
 refine zD 5<|jc (vs:=[.slice mP zs.length lR]) [] (hCt (show bE _ _ _ _ _ from ⟨mP,B1,BZ,lR,rfl,B0,yL,yK⟩) (by omega) hpr) ?_
 rintro _ _ ⟨rfl,rfl⟩
 refine jg 0 []<|jn fun b8=>jd 16 [0]<|jl (b:=f14) (off:=0) (m:=13) (vs:=[d0,d1,d2,d3,d4,d5,.slice kI K.before.length jY,.slice kJ K.after.length jZ,zI K.gone,zI K.new,zI K.af,d8,d9]) 6 ⟨_,_,_,.inl (oU _ _ hf),rfl⟩<|zD 4<|dW [1,1,1,1,1,0,1,0,0] [] (fun(zz:Nat×Bool×Int×Int×Int)=>[(2,zI zz.2.2.1),(3,zI zz.2.2.2.1),(4,zI zz.2.2.2.2),(5,zI NO),(6,zP f14),(7,.slice mP zs.length lR),(8,zP b8),(9,.bool zz.2.1),(31,zI (K.before.length:Int)),(32,zI (zz.1:Int))]) (fun(zz:Nat×Bool×Int×Int×Int)=>[.b b8 (.cells ⟨[zI ((aw zs).c 0 0),zI ((aw zs).c 0 1),zI ((aw zs).c 0 2),zI ((aw zs).c 0 3),zI ((aw zs).c 1 0),zI ((aw zs).c 1 1),zI ((aw zs).c 1 2),zI ((aw zs).c 1 3),zI ((aw zs).c 2 0),zI ((aw zs).c 2 1),zI ((aw zs).c 2 2),zI ((aw zs).c 2 3),zI ((aw zs).c 3 0),zI ((aw zs).c 3 1),zI ((aw zs).c 3 2),zI ((aw zs).c 3 3)]⟩ 123 (0,0)),.b b1 (.cells ⟨[v0,v1,.slice fa 0 fc,v3,v4,v5,v6,v7,zI K.gone,zI K.new,zI K.af,vb]⟩ 40 (0,0)),.l fr]) (fun(zz:Nat×Bool×Int×Int×Int)=>zz.1≤K.before.length∧(⟨zz.2.1,zz.2.2.1,zz.2.2.2.1,zz.2.2.2.2⟩:w9)=(abj (aw zs) ((zs.length:Nat):Int) K.after.length zz.1)) (fun(zz:Nat×Bool×Int×Int×Int)=>K.before.length-zz.1) (⟨0,false,0,0,((zs.length:Nat):Int)⟩) ⟨by dsimp only;omega,rfl⟩ [0,1,2] ?_
 rintro⟨i,qf,qa,qb,qw⟩ hI K1 bK rest
 dsimp only at hI
 refine zD 5<|zJ 33 ((i:Int) <(K.before.length:Int)) (fun h6=>?_) fun h6=>?_
 ·
  refine zD 15<|jl (b:=f14) (off:=0) (m:=13) (vs:=[d0,d1,d2,d3,d4,d5,.slice kI K.before.length jY,.slice kJ K.after.length jZ,zI K.gone,zI K.new,zI K.af,d8,d9]) 7 ⟨_,_,_,.inl (oU _ _ hf),rfl⟩<|zD 4<|dW [1,1,1,1,1,0,1,0,0,1,1,0,0,1,1,0,0] [K1] (fun(zz:Nat×Bool×Int×Int×Int)=>[(2,zI zz.2.2.1),(3,zI zz.2.2.2.1),(4,zI zz.2.2.2.2),(5,zI NO),(6,zP f14),(7,.slice mP zs.length lR),(8,zP b8),(9,.bool zz.2.1),(10,zI (i:Int)),(31,zI (K.before.length:Int)),(32,zI (i:Int)),(40,zI (K.after.length:Int)),(41,zI (zz.1:Int))]) (fun(zz:Nat×Bool×Int×Int×Int)=>[.b b8 (.cells ⟨[zI ((aw zs).c 0 0),zI ((aw zs).c 0 1),zI ((aw zs).c 0 2),zI ((aw zs).c 0 3),zI ((aw zs).c 1 0),zI ((aw zs).c 1 1),zI ((aw zs).c 1 2),zI ((aw zs).c 1 3),zI ((aw zs).c 2 0),zI ((aw zs).c 2 1),zI ((aw zs).c 2 2),zI ((aw zs).c 2 3),zI ((aw zs).c 3 0),zI ((aw zs).c 3 1),zI ((aw zs).c 3 2),zI ((aw zs).c 3 3)]⟩ 123 (0,0)),.b b1 (.cells ⟨[v0,v1,.slice fa 0 fc,v3,v4,v5,v6,v7,zI K.gone,zI K.new,zI K.af,vb]⟩ 40 (0,0)),.l fr]) (fun(zz:Nat×Bool×Int×Int×Int)=>zz.1≤K.after.length∧(⟨zz.2.1,zz.2.2.1,zz.2.2.2.1,zz.2.2.2.2⟩:w9)=(Bo (aw zs) ((zs.length:Nat):Int) i (abj (aw zs) ((zs.length:Nat):Int) K.after.length i) zz.1)) (fun(zz:Nat×Bool×Int×Int×Int)=>K.after.length-zz.1) (⟨0,qf,qa,qb,qw⟩) ⟨by dsimp only;omega,hI.2⟩ [0,1,2] ?_
  rintro⟨j,qf,qa,qb,qw⟩ hJ K2 mr rest
  dsimp only at hJ
  refine zD 5<|zJ 42 ((j:Int) <(K.after.length:Int)) (fun h7=>?_) fun h7=>?_
  ·
   refine zD 10 ?_
   have iV:=C1 zs i j
   refine zD 3<|GM (b:=b8) (off:=0) (len:=4) (sz:=4) (i:Int) (by omega)<|GM (b:=b8) (off:=0+(i:Int).toNat*4) (len:=4) (sz:=1) (j:Int) (by omega)<|nS (b:=b8) (off:=0+(i:Int).toNat*4+(j:Int).toNat*1) (m:=1) (vs:=[zI ((aw zs).c i j)]) 0 [0] [(b8,.cells ⟨[zI ((aw zs).c 0 0),zI ((aw zs).c 0 1),zI ((aw zs).c 0 2),zI ((aw zs).c 0 3),zI ((aw zs).c 1 0),zI ((aw zs).c 1 1),zI ((aw zs).c 1 2),zI ((aw zs).c 1 3),zI ((aw zs).c 2 0),zI ((aw zs).c 2 1),zI ((aw zs).c 2 2),zI ((aw zs).c 2 3),zI ((aw zs).c 3 0),zI ((aw zs).c 3 1),zI ((aw zs).c 3 2),zI ((aw zs).c 3 3)]⟩ 123 (0,0))] (fun s _ hZ=>oD (hZ _ (.head _)) (AG (m:=aw zs) (by omega) (by omega)))<|zD 4<|GM (b:=b8) (off:=0) (len:=4) (sz:=4) (i:Int) (by omega)<|GM (b:=b8) (off:=0+(i:Int).toNat*4) (len:=4) (sz:=1) (j:Int) (by omega)<|nS (b:=b8) (off:=0+(i:Int).toNat*4+(j:Int).toNat*1) (m:=1) (vs:=[zI ((aw zs).c i j)]) 0 [0] [(b8,.cells ⟨[zI ((aw zs).c 0 0),zI ((aw zs).c 0 1),zI ((aw zs).c 0 2),zI ((aw zs).c 0 3),zI ((aw zs).c 1 0),zI ((aw zs).c 1 1),zI ((aw zs).c 1 2),zI ((aw zs).c 1 3),zI ((aw zs).c 2 0),zI ((aw zs).c 2 1),zI ((aw zs).c 2 2),zI ((aw zs).c 2 3),zI ((aw zs).c 3 0),zI ((aw zs).c 3 1),zI ((aw zs).c 3 2),zI ((aw zs).c 3 3)]⟩ 123 (0,0))] (fun s _ hZ=>oD (hZ _ (.head _)) (AG (m:=aw zs) (by omega) (by omega)))<|ja ((zs.length:Int)-((aw zs).c i j)) (by omega)<|jmx (k:= .i64) (a:=((aw zs).c i j)) (b:=((zs.length:Int)-((aw zs).c i j)))<|zD 8<|zJ 60 ((max ((aw zs).c i j) ((zs.length:Int)-((aw zs).c i j))) <qw) (fun h8=>?_) fun h8=>?_
   ·
    refine zD 11<|ja ((j:Int)+1) (by omega)<|zD 2<|bJ mr (⟨j+1,true,(i:Int),(j:Int),(max ((aw zs).c i j) ((zs.length:Int)-((aw zs).c i j)))⟩) ⟨by dsimp only;omega,awX hJ.2 (by assumption)⟩ (by dsimp only;omega) [0,1,2] (Sub.refl _)
   refine zD 3<|ja ((j:Int)+1) (by omega)<|zD 2<|bJ mr (⟨j+1,qf,qa,qb,qw⟩) ⟨by dsimp only;omega,ai6 hJ.2 (by assumption)⟩ (by dsimp only;omega) [0,1,2] (Sub.refl _)
  refine zD 3<|ja ((i:Int)+1) (by omega)<|zD 2<|bJ bK (⟨i+1,qf,qa,qb,qw⟩) ⟨by dsimp only;omega,by have:=hJ.2;rw[show j=K.after.length by omega] at this;exact this⟩ (by dsimp only;omega) [0,1,2] (Sub.refl _)
 refine zD 8<|js 67 (!qf) (fun h9=>?_) (fun h9=>?_)
 ·
  try simp only[zB] at h9
  refine zD 9<|Ja qC.a.a (.tuple ⟨[zI 0,zI 0,zI 0,zI 11]⟩) [2] [] (bY.trans oU) ⟨zs,_,_,_,_,hz,rfl,rfl,.inr ⟨oV.1,by have:=hI.2;rw[show i=K.before.length by omega] at this;rw[←this];simp only[VB];cases qf<;>first|rfl|contradiction|simp_all⟩⟩
 try simp only[zB] at h9
 refine zD 13<|Ja qC.a.a (.tuple ⟨[zI qa,zI qb,zI qw,zI 0]⟩) [2] [] (bY.trans oU) ⟨zs,_,_,_,_,hz,rfl,rfl,.inr ⟨oV.1,by have:=hI.2;rw[show i=K.before.length by omega] at this;rw[←this];simp only[VB];cases qf<;>first|rfl|contradiction|simp_all⟩⟩
def IS:Value→Int
 | .int _ n=>n
 |_=>0
def S2(f:P4→Int)(F:List (P4×Value)):Int:=(F.map fun x=>f x.1*IS x.2).sum
def pk(x:ai):P4:=(x.w0,x.w1,x.w2,x.w3)
def acS(f:P4→Int)(zs:List ai):Int:=(zs.map fun x=>f (pk x)).sum
structure CF(F:List (P4×Value))(zs:List ai):Prop where
 sum:∀f,S2 f F=acS f zs
 val:∀x∈F,∃n,x.2= zI n∧0≤n∧n≤zs.length
 key:∀x∈F,∃z∈zs,x.1=pk z
theorem CF.nil:CF [] []:=⟨fun _=>rfl,by simp,by simp⟩
theorem FN(g:κ×Value→Int):∀ {F:List (κ×Value)} {i:Nat} {k:κ} {u v:Value},F[i]?=some (k,u)→((tN k v F i).map g).sum=(F.map g).sum-g (k,u)+g (k,v)
 | [],_,_,_,_,h=>by simp at h
 |x::F,0,k,u,v,h=>by simp at h;subst h;simp only[tN,List.map_cons,List.sum_cons];omega
 |x::F,i+1,k,u,v,h=>by
  simp at h
  have:=FN g (v:=v) h
  simp only[tN,List.map_cons,List.sum_cons];omega
theorem vY:∀ {F:List (κ×Value)} {i:Nat} {k:κ} {v:Value} {x:κ×Value},x∈tN k v F i→x=(k,v)∨x∈F
 | [],_,_,_,_,h=>by cases h
 |y::F,0,k,v,x,h=>by
  rcases List.mem_cons.1 h with h|h
  ·exact .inl h
  exact .inr (List.mem_cons_of_mem _ h)
 |y::F,i+1,k,v,x,h=>by
  rcases List.mem_cons.1 h with h|h
  ·exact .inr (by rw[h];exact List.mem_cons_self)
  exact(vY h).imp id (List.mem_cons_of_mem _)
theorem CF.look{F:List (P4×Value)}{zs:List ai}(h:CF F zs)(k:P4):∃n,Qj (zI 0) false k F= zI n∧0≤n∧n≤zs.length:=by
 simp only[Qj,lkM]
 cases hf:sw k F 0 with
 |none=>exact⟨0,rfl,by omega,by omega⟩
 |some u=>
  obtain⟨j,u⟩:=u
  have:=(qH hf).2
  exact h.val _ (List.mem_of_getElem? this)
theorem CF.upd{F F1:List (P4×Value)}{zs:List ai}{x:ai}(h:CF F zs)(h1:((∃u,sw (pk x) F 0=some u)∧F1=F)∨(sw (pk x) F 0=none∧F1=F++[(pk x,zI 0)]))(hl:Qj (zI 0) false (pk x) F= zI n)(hn:0≤n∧n≤zs.length):CF (mC (pk x) (zI (n+1)) F1) (zs++[x]):=by
 have hz (f:P4→Int):acS f (zs++[x])=acS f zs+f (pk x):=by simp[acS]
 rcases h1 with ⟨⟨⟨j,u⟩,hf⟩,rfl⟩| ⟨hf,rfl⟩
 ·have hu:=qH hf
  simp only[Nat.sub_zero] at hu
  have qS:u= zI n:=by simpa [Qj,lkM,hf] using hl
  subst qS
  simp only[mC,hf]
  refine⟨fun f=>?_,fun y hy=>?_,fun y hy=>?_⟩
  ·rw[hz,←h.sum,S2,FN _ hu.2,S2]
   simp only[IS,Int.mul_add,Int.mul_one];omega
  ·rcases vY hy with rfl|hy
   ·exact⟨n+1,rfl,by omega,by simp;omega⟩
   obtain⟨m,h1,h2⟩:=h.val _ hy
   exact⟨m,h1,by omega,by simp;omega⟩
  rcases vY hy with rfl|hy
  ·exact⟨x,by simp,rfl⟩
  obtain⟨z,h1,h2⟩:=h.key _ hy
  exact⟨z,by simp[h1],h2⟩
 have qS:n=0:=by
  have:(Value.int .i64 0)= zI n:=by simpa [Qj,lkM,hf] using hl
  cases this;rfl
 subst qS
 have hs:mC (pk x) (zI (0+1)) (F++[(pk x,zI 0)])=tN (pk x) (zI (0+1)) (F++[(pk x,zI 0)]) (0+F.length):=by
  simp only[mC,A2 (v:= zI 0) hf]
 have hg:(F++[(pk x,Value.int .i64 0)])[0+F.length]?=some (pk x,zI 0):=by simp
 rw[hs]
 refine⟨fun f=>?_,fun y hy=>?_,fun y hy=>?_⟩
 ·rw[hz,←h.sum,S2,FN _ hg,S2]
  simp[IS]
 ·rcases vY hy with rfl|hy
  ·exact⟨0+1,rfl,by omega,by simp;omega⟩
  rcases List.mem_append.1 hy with hy|hy
  ·obtain⟨m,h1,h2⟩:=h.val _ hy
   exact⟨m,h1,by omega,by simp;omega⟩
  rw[List.mem_singleton] at hy;subst hy
  exact⟨0,rfl,by omega,by omega⟩
 rcases vY hy with rfl|hy
 ·exact⟨x,by simp,rfl⟩
 rcases List.mem_append.1 hy with hy|hy
 ·obtain⟨z,h1,h2⟩:=h.key _ hy
  exact⟨z,by simp[h1],h2⟩
 rw[List.mem_singleton] at hy;subst hy
 exact⟨x,by simp,rfl⟩
def fV(i j:Nat):Value→Int
 | .agg ⟨l⟩=>(match l[i]? with
  |some (.int _ n)=>if n=(j:Int)+1 then 1 else 0
  |_=>0)
 |_=>0
def sO(i j:Nat)(l:List MapEntry):Int:=(l.map fun e=>fV i j e.key*IS e.val).sum
theorem acT{F:List (P4×Value)}{es:Array MapEntry}(h:tE It F es ck)(i j:Nat):sO i j es.toList=S2 (fun k=>fV i j (It k)) F:=by
 have h1:=congrArg (List.map fun p:Value×Value=>fV i j p.1*IS p.2) h.1
 simp only[List.map_map] at h1
 unfold sO S2
 exact congrArg List.sum h1
theorem Pa(i j:Nat):∀ {l:List MapEntry} {e:MapEntry},(l.map (·.born)).Nodup→e∈l→sO i j l=fV i j e.key*IS e.val+sO i j (l.filter fun x=> !decide (x.born=e.born))
 | [],_,_,h=>by cases h
 |x::l,e,hn,h=>by
  simp only[List.map_cons,List.nodup_cons] at hn
  rcases List.mem_cons.1 h with rfl|h
  ·have:l.filter (fun y=> !decide (y.born=e.born))=l:=by
    refine List.filter_eq_self.2 fun y hy=>?_
    have:y.born≠e.born:=fun h=>hn.1 (h▸List.mem_map_of_mem hy)
    simp[this]
   rw[List.filter_cons_of_neg (by simp),this];rfl
  have dX:x.born≠e.born:=fun k=>hn.1 (k▸List.mem_map_of_mem h)
  rw[List.filter_cons_of_pos (by simp[dX])]
  have:=Pa i j hn.2 h
  simp only[sO,List.map_cons,List.sum_cons] at this ⊢
  omega
theorem TX(es:Array MapEntry)(seen:List Nat)(b:Nat):cK es (seen++[b])=(cK es seen).filter fun x=> !decide (x.born=b):=by
 simp only[cK,List.filter_filter]
 refine List.filter_congr fun x _=>?_
 simp only[List.contains_eq_mem,List.mem_append,List.mem_singleton,Bool.decide_or,Bool.not_or]
 rw[Bool.and_comm]
theorem JU{F:List (P4×Value)}{es:Array MapEntry}(h:tE It F es ck){e:MapEntry}(he:e∈cK es seen)(i j:Nat):sO i j (cK es seen)=fV i j e.key*IS e.val+sO i j (cK es (seen++[e.born])):=by
 rw[TX]
 exact Pa i j ((List.filter_sublist.map _).nodup h.2.1) he
theorem aqn(i j:Nat)(v:Value):fV i j v=0∨fV i j v=1:=by
 unfold fV
 split<;>try exact .inl rfl
 split<;>try exact .inl rfl
 split<;>simp
theorem O9{i j:Nat}:∀ {l:List MapEntry},(∀e∈l,0≤IS e.val)→0≤sO i j l
 | [],_=>Int.le_refl _
 |x::l,h=>by
  have h1:=O9 (i:=i) (j:=j) (l:=l) fun e he=>h e (List.mem_cons_of_mem _ he)
  have h2:=h x List.mem_cons_self
  simp only[sO,List.map_cons,List.sum_cons] at h1 ⊢
  rcases aqn i j x.key with h3|h3<;>rw[h3]<;>omega
theorem akD{F:List (P4×Value)}{zs:List ai}(h:CF F zs){es:Array MapEntry}(hE:tE It F es ck):∀e∈cK es seen,0≤IS e.val:=fun e he=>by
 have h1:e∈es.toList:=(List.mem_filter.1 he).1
 have h2:(e.key,e.val)∈es.toList.map (fun e=>(e.key,e.val)):=List.mem_map_of_mem (f:=fun e:MapEntry=>(e.key,e.val)) h1
 rw[hE.1] at h2
 obtain⟨y,h3,h4⟩:=List.mem_map.1 h2
 obtain⟨n,h5,h6,_⟩:=h.val _ h3
 simp only[Prod.mk.injEq] at h4
 rw[←h4.2,h5];exact h6
theorem Yl(x:ai)(j:Nat)(hi:i <4):fV i j (It (pk x))=if pI x i=(j:Int)+1 then 1 else 0:=by
 rcases AI hi with rfl|rfl|rfl|rfl<;>rfl
theorem Wk(p:α→Prop)[DecidablePred p]:∀l:List α,(l.map fun x=>if p x then (1:Int) else 0).sum=((l.filter fun x=>decide (p x)).length:Int)
 | []=>rfl
 |x::l=>by
  rw[List.map_cons,List.sum_cons,Wk p l]
  by_cases h:p x
  ·rw[if_pos h,List.filter_cons_of_pos (by simpa using h),List.length_cons];omega
  rw[if_neg h,List.filter_cons_of_neg (by simpa using h)];omega
theorem CF.total{F:List (P4×Value)}{zs:List ai}(h:CF F zs){es:Array MapEntry}(hE:tE It F es ck)(j:Nat)(hi:i <4):sO i j (cK es [])=(aw zs).c i j:=by
 rw[Ck,acT hE,h.sum,acS]
 simp only[Yl _ j hi]
 exact Wk (fun x=>pI x i=(j:Int)+1) zs
theorem ab1{z:ai}(h:(z.w0==0&&(z.w1==0&&(z.w2==0&&(z.w3==0&&true))))=true)(i:Nat):pI z i=0:=by
 simp only[Bool.and_eq_true,beq_iff_eq] at h
 match i with
 |0=>exact h.1
 |1=>exact h.2.1
 |2=>exact h.2.2.1
 |_+3=>exact h.2.2.2.1
def EV(m:fy)(S T:Nat→Nat→Int):Prop:=∀i j,i <4→j <4→0≤m.c i j∧m.c i j+S i j=T i j
theorem EV.init{F:List (P4×Value)}{zs:List ai}(h:CF F zs){es:Array MapEntry}(hE:tE It F es ck):EV ⟨fun _ _=>0⟩ (fun i j=>sO i j (cK es [])) (aw zs).c:=fun i j hi _=>⟨Int.le_refl _,by show 0+sO i j (cK es [])=_;rw[h.total hE j hi];exact Int.zero_add _⟩
def inS(z:ai)(n:Int)(q:Nat)(R:Nat→Nat→Int):Nat→Nat→Int:=fun i j=>(if i <q then 0 else fV i j (It (pk z))*n)+R i j
theorem EV.zero{m:fy}{z:ai}{n:Int}{es:Array MapEntry}{ck:Nat}{F:List (P4×Value)}{T:Nat→Nat→Int}{seen:List Nat}{e:MapEntry}(hE:tE It F es ck)(he:e∈cK es seen)(hk:e.key=It (pk z))(hz:∀i,pI z i=0)(h:EV m (fun i j=>sO i j (cK es seen)) T):EV m (fun i j=>sO i j (cK es (seen++[e.born]))) T:=fun i j hi hj=>by
 have h1:=h i j hi hj
 have h2:=JU hE he i j
 rw[hk,Yl z j hi,if_neg (by rw[hz];omega),Int.zero_mul,Int.zero_add] at h2
 dsimp only at h1 ⊢
 rw[h2] at h1;exact h1
theorem EV.open_{m:fy}{z:ai}{es:Array MapEntry}{F:List (P4×Value)}{e:MapEntry}(hE:tE It F es ck)(he:e∈cK es seen)(hk:e.key=It (pk z))(hv:e.val= zI n)(h:EV m (fun i j=>sO i j (cK es seen)) T):EV m (inS z n 0 fun i j=>sO i j (cK es (seen++[e.born]))) T:=fun i j hi hj=>by
 have h1:=h i j hi hj
 have h2:=JU hE he i j
 rw[hk,hv] at h2
 simp only[IS] at h2
 simp only[inS,if_neg (Nat.not_lt_zero i)]
 dsimp only at h1
 rw[h2] at h1;exact h1
theorem EV.close{m:fy}{z:ai}(h:EV m (inS z n 4 R) T):EV m R T:=fun i j hi hj=>by
 have h1:=h i j hi hj
 simp only[inS,if_pos hi,Int.zero_add] at h1
 exact h1
theorem EV.skip{m:fy}{z:ai}{q:Nat}(h:EV m (inS z n q R) T)(hq:¬pI z q>0):EV m (inS z n (q+1) R) T:=fun i j hi hj=>by
 have h1:=h i j hi hj
 simp only[inS] at h1 ⊢
 by_cases e:i=q
 ·subst e
  rw[if_neg (Nat.lt_irrefl _),Yl z j hi,if_neg (by omega),Int.zero_mul] at h1
  rw[if_pos (Nat.lt_succ_self _)];exact h1
 by_cases e2:i <q
 ·rw[if_pos e2] at h1;rw[if_pos (by omega)];exact h1
 rw[if_neg e2] at h1;rw[if_neg (by omega)];exact h1
theorem EV.add{m:fy}{z:ai}{q:Nat}(h:EV m (inS z n q R) T)(hn:0≤n)(hq:pI z q>0)(hq4:q <4):EV (rO m q (pI z q-1).toNat (m.c q (pI z q-1).toNat+n)) (inS z n (q+1) R) T:=fun i j hi hj=>by
 have h1:=h i j hi hj
 simp only[inS,rO] at h1 ⊢
 by_cases e:i=q
 ·subst e
  rw[if_neg (Nat.lt_irrefl _),Yl z j hi] at h1
  rw[if_pos (Nat.lt_succ_self _)]
  by_cases e2:j=(pI z i-1).toNat
  ·rw[if_pos (by omega)] at h1
   rw[if_pos ⟨rfl,e2⟩,←e2];omega
  rw[if_neg (by omega)] at h1
  rw[if_neg (by omega)];omega
 rw[if_neg (c:=i=q∧j=(pI z q-1).toNat) (by omega)]
 by_cases e2:i <q
 ·rw[if_pos e2] at h1;rw[if_pos (by omega)];exact h1
 rw[if_neg e2] at h1;rw[if_neg (by omega)];exact h1
theorem EV.bound{m:fy}{z:ai}{q:Nat}(h:EV m (inS z n q R) T)(hR:∀i j,0≤R i j)(hn:0≤n)(hi:i <4)(hj:j <4):0≤m.c i j∧m.c i j≤T i j:=by
 have h1:=h i j hi hj
 have h2:=hR i j
 simp only[inS] at h1
 split at h1
 ·omega
 rcases aqn i j (It (pk z)) with h3|h3<;>rw[h3] at h1<;>omega
theorem EV.fin{m:fy}{zs:List ai}{es:Array MapEntry}(h:EV m (fun i j=>sO i j (cK es seen)) (aw zs).c)(he:cK es seen=[]):zi m=zi (aw zs):=by
 have k (i j:Nat) (hi:i <4) (hj:j <4):m.c i j=(aw zs).c i j:=by
  have:=(h i j hi hj).2
  rw[he] at this
  simpa [sO] using this
 simp only[zi,k 0 0 (by decide) (by decide),k 0 1 (by decide) (by decide),k 0 2 (by decide) (by decide),k 0 3 (by decide) (by decide),k 1 0 (by decide) (by decide),k 1 1 (by decide) (by decide),k 1 2 (by decide) (by decide),k 1 3 (by decide) (by decide),k 2 0 (by decide) (by decide),k 2 1 (by decide) (by decide),k 2 2 (by decide) (by decide),k 2 3 (by decide) (by decide),k 3 0 (by decide) (by decide),k 3 1 (by decide) (by decide),k 3 2 (by decide) (by decide),k 3 3 (by decide) (by decide)]
theorem asA{z:ai}{q:Nat}(h:q <4):nth [zI z.w0,zI z.w1,zI z.w2,zI z.w3] ((q:Int).toNat*1)=some (zI (pI z q)):=by
 rcases AI h with rfl|rfl|rfl|rfl<;>rfl
theorem aew{m:fy}{a:Nat}{j:Int}(h:a <4)(k:0≤j∧j <4):nth (zi m) (0+(a:Int).toNat*4+j.toNat*1)=some (zI (m.c a j.toNat)):=by
 obtain⟨b,rfl⟩:=Int.eq_ofNat_of_zero_le k.1
 exact AG h (by omega)
theorem aev{m:fy}{a:Nat}{j v:Int}(h:a <4)(k:0≤j∧j <4):dC (zi m) (0+(a:Int).toNat*4+j.toNat*1) [zI v]=zi (rO m a j.toNat v):=by
 obtain⟨b,rfl⟩:=Int.eq_ofNat_of_zero_le k.1
 exact alM h (by omega)
theorem aex{m:fy}{a:Nat}{j:Int}{v:Value}(h:a <4)(k:0≤j∧j <4):Nat.ble ((0+(a:Int).toNat*4+j.toNat*1)+[v].length) (zi m).length=true:=by
 obtain⟨b,rfl⟩:=Int.eq_ofNat_of_zero_le k.1
 exact alN h (by omega)
theorem aVv(z:ai):EqV zT 113 (v4 z.w0 z.w1 z.w2 z.w3) (v4 0 0 0 0) (z.w0==0&&(z.w1==0&&(z.w2==0&&(z.w3==0&&true)))):=NL (aHn (dep:=9998) (ny Tryz.typeInfo113 Tryz.underlying113 rfl rfl rfl rfl rfl rfl) mL _ _ _ _ _ _ _ _)
theorem aPE:ov zT 113:=by unfold ov;kernel_rfl
theorem Qh{F F1:List (P4×Value)}{k:P4}(h1:((∃u,sw k F 0=some u)∧F1=F)∨(sw k F 0=none∧F1=F++[(k,zI 0)]))(hl:Qj (zI 0) false k F= zI n):Qj (zI 0) false k F1= zI n:=by
 rcases h1 with ⟨_,rfl⟩| ⟨hf,rfl⟩
 ·exact hl
 simp only[Qj,lkM,A2 (v:= zI 0) hf]
 simpa [Qj,lkM,hf] using hl
theorem aff{v:Value}{zs:List ai}{ro:Nat→Option Obj}(hl:bE ro v 8 cu zs)(hn:zs.length≤100000)(hp:∀x∈zs,∀q,0≤pI x q∧pI x q≤4):eG zT 54 [v] ro [] (fun r Y=>r= .agg ⟨zi (aw zs)⟩∧Y=[]):=by
 obtain⟨fI,rV,rS,eZ,rfl,tR,lQ,mO⟩:=hl
 refine bD au [] [] ba<|zD 2<|jn fun b2=>zD 3<|jmk It fun F6 L11 agk=>zD 10<|dW [1,1,0,1,0,0] [] (fun(zz:Nat×(List (P4×Value))×Cells)=>[(2,zP b2),(3,(.map (some F6))),(12,.slice fI zs.length eZ),(13,zI (zs.length:Int)),(14,zI (zz.1:Int))]) (fun(zz:Nat×(List (P4×Value))×Cells)=>[.l zz.2.2,.b b2 (.cells ⟨[zI 0,zI 0,zI 0,zI 0,zI 0,zI 0,zI 0,zI 0,zI 0,zI 0,zI 0,zI 0,zI 0,zI 0,zI 0,zI 0]⟩ 123 (0,0))]) (fun(zz:Nat×(List (P4×Value))×Cells)=>zz.1≤zs.length∧j6 F6 It zz.2.1 zz.2.2∧CF zz.2.1 (zs.take zz.1)) (fun(zz:Nat×(List (P4×Value))×Cells)=>zs.length-zz.1) (⟨0,[],L11⟩) ⟨by dsimp only;omega,agk,CF.nil⟩ [0,1] ?_
 rintro⟨k,F,LM⟩ hI K1 bK rest
 dsimp only at hI
 refine zD 5<|zJ 15 ((k:Int) <(zs.length:Int)) (fun h1=>?_) fun h1=>?_
 ·
  refine zD 6 ?_
  obtain⟨Bv,mU⟩:=zG zs k
  refine iA eZ 8 lQ mU<|jl 0 (mO _ _ mU)<|jn fun b5=>jd 2 [0] ?_
  obtain⟨nk,hlk,hnk⟩:=hI.2.2.look (pk Bv)
  have Sz:(zs.take k).length=k:=by rw[List.length_take];omega
  refine jd 4 [0]<|nj [3,5] ⟨fun z2 t3 qZ=>?_,fun z5 t6 Q9=>?_,trivial⟩
  ·
   refine jlu (kv:=It) (F:=F) (r:=F6) (K:=113) (pk Bv) (zI 0) false [1] LM aeY (fun s _ hZ=>hI.2.1.has hZ)<|bB qZ [0,1,2]<|jw 3 (zI nk) hlk<|ja (nk+1) (by omega)<|aL 5 fun YV Zd hL8=>jme (kv:=It) (F:=F) (r:=F6) (L:=LM) 1 (pk Bv) aeY mL hI.2.1 fun Fm4 bm4 cm4 Lm4 bgi hm4=>iu hL8 []<|aL 6 fun YU Zc UQ=>zD 1<|bB UQ [0,1,2]<|aL 7 fun Ft FL wy=>jes 0 (zI (nk+1)) hm4 fun Lm7 hm7=>dZ wy<|zD 2<|ja ((k:Int)+1) (by omega)<|zD 2<|bJ bK (⟨k+1,_,Lm7⟩) ⟨by dsimp only;omega,hm7,by dsimp only;rw[jJ mU];exact hI.2.2.upd (by assumption) hlk hnk⟩ (by dsimp only;omega) [0,2] (Sub.refl _)
  refine jme (kv:=It) (F:=F) (r:=F6) (L:=LM) 1 (pk Bv) aeY mL hI.2.1 fun Fm9 bm9 cm9 Lm9 aGx hm9=>dZ Q9<|nj [3,6] ⟨fun z11 t12 Nv=>?_,fun z14 t15 Rb=>?_,trivial⟩
  ·
   refine jlu (kv:=It) (F:=Fm9) (r:=F6) (K:=113) (pk Bv) (zI 0) false [0] Lm9 aeY (fun s _ hZ=>hm9.own.has hZ)<|dZ Nv<|jw 3 (zI nk) (Qh aGx hlk)<|ja (nk+1) (by omega)<|aL 6 fun aou aoQ Ho=>zD 1<|bB Ho [0,1,2]<|aL 7 fun ayB azz ahf=>jes 0 (zI (nk+1)) hm9 fun aWw aDd=>dZ ahf<|zD 2<|ja ((k:Int)+1) (by omega)<|zD 2<|bJ bK (⟨k+1,_,aWw⟩) ⟨by dsimp only;omega,aDd,by dsimp only;rw[jJ mU];exact hI.2.2.upd (by assumption) hlk hnk⟩ (by dsimp only;omega) [0,2] (Sub.refl _)
  refine zD 1<|dZ Rb<|aL 3 fun ayA azy ahe=>jlu (kv:=It) (F:=Fm9) (r:=F6) (K:=113) (pk Bv) (zI 0) false [0] Lm9 aeY (fun s _ hZ=>hm9.own.has hZ)<|dZ ahe<|jw 3 (zI nk) (Qh aGx hlk)<|ja (nk+1) (by omega)<|aL 7 fun ayz azx Nu=>jes 0 (zI (nk+1)) hm9 fun aWv agj=>dZ Nu<|zD 2<|ja ((k:Int)+1) (by omega)<|zD 2<|bJ bK (⟨k+1,_,aWv⟩) ⟨by dsimp only;omega,agj,by dsimp only;rw[jJ mU];exact hI.2.2.upd (by assumption) hlk hnk⟩ (by dsimp only;omega) [0,2] (Sub.refl _)
 refine zD 4<|jn fun b6=>jf [1] LM (fun bcy at7 au3=>?_)
 have hCF:CF F zs:=by have:=hI.2.2;rwa[show k=zs.length by omega,List.take_length] at this
 obtain⟨BE,IL,rfl,hE1⟩:=hI.2.1
 refine zD 5<|jmR (au3 _ (.head _)) fun r27=>jg 0 [.b r27 (uP F6 IL [])]<|zD 2<|dW [1,1,1,1,0,1,0,0] [] (fun(zz:(List Nat)×fy)=>[(2,zP b2),(6,zP b6),(27,zP r27)]) (fun(zz:(List Nat)×fy)=>[.b r27 (uP F6 IL zz.1),.b b6 (.cells ⟨[zI (zz.2.c 0 0),zI (zz.2.c 0 1),zI (zz.2.c 0 2),zI (zz.2.c 0 3),zI (zz.2.c 1 0),zI (zz.2.c 1 1),zI (zz.2.c 1 2),zI (zz.2.c 1 3),zI (zz.2.c 2 0),zI (zz.2.c 2 1),zI (zz.2.c 2 2),zI (zz.2.c 2 3),zI (zz.2.c 3 0),zI (zz.2.c 3 1),zI (zz.2.c 3 2),zI (zz.2.c 3 3)]⟩ 123 (0,0)),.b b2 (.cells ⟨[zI 0,zI 0,zI 0,zI 0,zI 0,zI 0,zI 0,zI 0,zI 0,zI 0,zI 0,zI 0,zI 0,zI 0,zI 0,zI 0]⟩ 123 (0,0))]) (fun(zz:(List Nat)×fy)=>EV zz.2 (fun i j=>sO i j (cK BE zz.1)) (aw zs).c) (fun(zz:(List Nat)×fy)=>(cK BE zz.1).length) (⟨[],⟨fun _ _=>0⟩⟩) (EV.init hCF hE1) [0,1,2] ?_
 rintro⟨seen,m⟩ hI K21 anh rest
 dsimp only at hI
 refine zD 2<|jmN (it:=r27) (kv:=It) (seen:=seen) 0 (au3 _ (.head _)) hE1 (fun k28 v28 e28 aDC aaC au1 aCh=>?_) (fun atI=>?_)
 ·
  obtain⟨Gy,apP,aC4⟩:=hCF.val _ aDC
  obtain⟨kY,atI,hkz⟩:=hCF.key _ aDC
  dsimp only at apP hkz
  subst apP
  subst hkz
  have hpz:=hp kY atI
  have cL:=GH aaC
  refine jg 0 [.b r27 (uP F6 IL (seen++[e28.born]))]<|zD 8<|jmE (it:=r27) 0 (au3 _ (.head _)) hE1 aaC au1 aCh<|jg 0 [.b r27 (uP F6 IL (seen++[e28.born]))]<|zD 2<|jn fun b7=>jd 8 [0,0]<|jeq aPE (aVv kY)<|zD 1<|js 35 (kY.w0==0&&(kY.w1==0&&(kY.w2==0&&(kY.w3==0&&true)))) (fun h21=>?_) (fun h21=>?_)
  ·
   refine zD 2<|bJ anh (⟨(seen++[e28.born]),m⟩) (hI.zero (n:=0) hE1 aaC au1 (ab1 (by assumption))) cL [1,2,3] (Sub.refl _)
  refine jd 8 [0]<|dW [1,1,1,1,0,1,0,0,1,1,0,1,1,1,0,0] [K21] (fun(zz:Nat×fy)=>[(2,zP b2),(6,zP b6),(8,zI Gy),(27,zP r27),(36,.agg ⟨[zI kY.w0,zI kY.w1,zI kY.w2,zI kY.w3]⟩),(37,zI (zz.1:Int))]) (fun(zz:Nat×fy)=>[.b r27 (uP F6 IL (seen++[e28.born])),.b b6 (.cells ⟨[zI (zz.2.c 0 0),zI (zz.2.c 0 1),zI (zz.2.c 0 2),zI (zz.2.c 0 3),zI (zz.2.c 1 0),zI (zz.2.c 1 1),zI (zz.2.c 1 2),zI (zz.2.c 1 3),zI (zz.2.c 2 0),zI (zz.2.c 2 1),zI (zz.2.c 2 2),zI (zz.2.c 2 3),zI (zz.2.c 3 0),zI (zz.2.c 3 1),zI (zz.2.c 3 2),zI (zz.2.c 3 3)]⟩ 123 (0,0)),.b b7 (.cells ⟨[zI kY.w0,zI kY.w1,zI kY.w2,zI kY.w3]⟩ 113 (0,0)),.b b2 (.cells ⟨[zI 0,zI 0,zI 0,zI 0,zI 0,zI 0,zI 0,zI 0,zI 0,zI 0,zI 0,zI 0,zI 0,zI 0,zI 0,zI 0]⟩ 123 (0,0))]) (fun(zz:Nat×fy)=>zz.1≤4∧EV zz.2 (inS kY Gy zz.1 (fun i j=>sO i j (cK BE (seen++[e28.born])))) (aw zs).c) (fun(zz:Nat×fy)=>4-zz.1) (⟨0,m⟩) ⟨by dsimp only;omega,hI.open_ hE1 aaC au1 aCh⟩ [1,2,0,3] ?_
  rintro⟨q,m⟩ hJ K22 aGr rest
  dsimp only at hJ
  refine zD 5<|zJ 38 ((q:Int) <4) (fun DT=>?_) fun DT=>?_
  ·
   refine zD 7<|jai (l:=[zI kY.w0,zI kY.w1,zI kY.w2,zI kY.w3]) (q:Int) 4 1 false (by omega) (v:= zI (pI kY q)) (show nth [_,_,_,_] _=_ from asA (by omega))<|zD 8<|zJ 42 ((pI kY q)>0) (fun Fj=>?_) fun Fj=>?_
   ·
    refine zD 4<|ja ((pI kY q)-1) (by have:=hpz q;omega) ?_
    refine GM (b:=b6) (off:=0) (len:=4) (sz:=4) (q:Int) (by omega)<|GM (b:=b6) (off:=0+(q:Int).toNat*4) (len:=4) (sz:=1) ((pI kY q)-1) (by have:=hpz q;omega) ?_
    refine nS (b:=b6) (off:=0+(q:Int).toNat*4+((pI kY q)-1).toNat*1) (m:=1) (vs:=[zI (m.c q (pI kY q-1).toNat)]) 0 [1] [(b6,.cells ⟨[zI (m.c 0 0),zI (m.c 0 1),zI (m.c 0 2),zI (m.c 0 3),zI (m.c 1 0),zI (m.c 1 1),zI (m.c 1 2),zI (m.c 1 3),zI (m.c 2 0),zI (m.c 2 1),zI (m.c 2 2),zI (m.c 2 3),zI (m.c 3 0),zI (m.c 3 1),zI (m.c 3 2),zI (m.c 3 3)]⟩ 123 (0,0))] (fun s _ hZ=>oD (hZ _ (.head _)) (aew (m:=m) (by omega) (by have:=hpz q;omega))) ?_
    refine zD 1<|ja ((m.c q (pI kY q-1).toNat)+Gy) (by have h7:=hJ.2.bound (fun i j=>O9 (akD hCF hE1)) aC4.1 (i:=q) (j:=(pI kY q-1).toNat) (by omega) (by have:=hpz q;omega);have h8:=C1 zs q (pI kY q-1).toNat;omega) ?_
    refine GM (b:=b6) (off:=0) (len:=4) (sz:=4) (q:Int) (by omega)<|GM (b:=b6) (off:=0+(q:Int).toNat*4) (len:=4) (sz:=1) ((pI kY q)-1) (by have:=hpz q;omega) ?_
    refine aL 10 fun ayw azu UY=>jsx 1 b6 (0+(q:Int).toNat*4+((pI kY q)-1).toNat*1) [zI (m.c 0 0),zI (m.c 0 1),zI (m.c 0 2),zI (m.c 0 3),zI (m.c 1 0),zI (m.c 1 1),zI (m.c 1 2),zI (m.c 1 3),zI (m.c 2 0),zI (m.c 2 1),zI (m.c 2 2),zI (m.c 2 3),zI (m.c 3 0),zI (m.c 3 1),zI (m.c 3 2),zI (m.c 3 3)] [zI ((m.c q (pI kY q-1).toNat)+Gy)] 123 (by intro v hv;rw[List.mem_singleton] at hv;subst hv;rfl) (aex (m:=m) (by omega) (by have:=hpz q;omega)) ?_
    refine jmw 0 [.b b6 (.cells ⟨[zI ((rO m q (pI kY q-1).toNat (m.c q (pI kY q-1).toNat+Gy)).c 0 0),zI ((rO m q (pI kY q-1).toNat (m.c q (pI kY q-1).toNat+Gy)).c 0 1),zI ((rO m q (pI kY q-1).toNat (m.c q (pI kY q-1).toNat+Gy)).c 0 2),zI ((rO m q (pI kY q-1).toNat (m.c q (pI kY q-1).toNat+Gy)).c 0 3),zI ((rO m q (pI kY q-1).toNat (m.c q (pI kY q-1).toNat+Gy)).c 1 0),zI ((rO m q (pI kY q-1).toNat (m.c q (pI kY q-1).toNat+Gy)).c 1 1),zI ((rO m q (pI kY q-1).toNat (m.c q (pI kY q-1).toNat+Gy)).c 1 2),zI ((rO m q (pI kY q-1).toNat (m.c q (pI kY q-1).toNat+Gy)).c 1 3),zI ((rO m q (pI kY q-1).toNat (m.c q (pI kY q-1).toNat+Gy)).c 2 0),zI ((rO m q (pI kY q-1).toNat (m.c q (pI kY q-1).toNat+Gy)).c 2 1),zI ((rO m q (pI kY q-1).toNat (m.c q (pI kY q-1).toNat+Gy)).c 2 2),zI ((rO m q (pI kY q-1).toNat (m.c q (pI kY q-1).toNat+Gy)).c 2 3),zI ((rO m q (pI kY q-1).toNat (m.c q (pI kY q-1).toNat+Gy)).c 3 0),zI ((rO m q (pI kY q-1).toNat (m.c q (pI kY q-1).toNat+Gy)).c 3 1),zI ((rO m q (pI kY q-1).toNat (m.c q (pI kY q-1).toNat+Gy)).c 3 2),zI ((rO m q (pI kY q-1).toNat (m.c q (pI kY q-1).toNat+Gy)).c 3 3)]⟩ 123 (0,0))] (L:=[(b6,.cells ⟨dC [zI (m.c 0 0),zI (m.c 0 1),zI (m.c 0 2),zI (m.c 0 3),zI (m.c 1 0),zI (m.c 1 1),zI (m.c 1 2),zI (m.c 1 3),zI (m.c 2 0),zI (m.c 2 1),zI (m.c 2 2),zI (m.c 2 3),zI (m.c 3 0),zI (m.c 3 1),zI (m.c 3 2),zI (m.c 3 3)] (0+(q:Int).toNat*4+((pI kY q)-1).toNat*1) [zI ((m.c q (pI kY q-1).toNat)+Gy)]⟩ 123 (0,0))]) (by rw[aev (m:=m) (by omega) (by have:=hpz q;omega)];rfl) ?_
    refine iu UY []<|zD 2<|ja ((q:Int)+1) (by omega)<|zD 2<|bJ aGr (⟨q+1,(rO m q (pI kY q-1).toNat (m.c q (pI kY q-1).toNat+Gy))⟩) ⟨by dsimp only;omega,hJ.2.add aC4.1 (by assumption) (by omega)⟩ (by dsimp only;omega) [1,0,2,3] (Sub.refl _)
   refine zD 3<|ja ((q:Int)+1) (by omega)<|zD 2<|bJ aGr (⟨q+1,m⟩) ⟨by dsimp only;omega,hJ.2.skip (by assumption)⟩ (by dsimp only;omega) [0,1,2,3] (Sub.refl _)
  refine zD 2<|bJ anh (⟨(seen++[e28.born]),m⟩) (EV.close (z:=kY) (n:=Gy) (by have:=hJ.2;rwa[show q=4 by omega] at this)) cL [0,1,3] (Sub.refl _)
 refine jg 0 [.b r27 (uP F6 IL seen)]<|jd 11 [1,2]<|aF q0.a (.agg ⟨[zI (m.c 0 0),zI (m.c 0 1),zI (m.c 0 2),zI (m.c 0 3),zI (m.c 1 0),zI (m.c 1 1),zI (m.c 1 2),zI (m.c 1 3),zI (m.c 2 0),zI (m.c 2 1),zI (m.c 2 2),zI (m.c 2 3),zI (m.c 3 0),zI (m.c 3 1),zI (m.c 3 2),zI (m.c 3 3)]⟩) [2] [] [] at7 ⟨_,_,rfl,rfl,by rw[←hI.fin atI],rfl⟩
theorem Bb:qQ:=fun hl hn hp=>aff hl hn hp
theorem A0:∀(l:List Int) (a:Int),l.foldl min a=a∨l.foldl min a∈l
 | [],_=> .inl rfl
 |y::l,a=>by
  simp only[List.foldl_cons]
  rcases A0 l (min a y) with h|h
  ·rw[h]
   rcases(by omega:min a y=a∨min a y=y) with e|e
   ·exact .inl e
   rw[e];exact .inr List.mem_cons_self
  exact .inr (List.mem_cons_of_mem _ h)
theorem Qd:∀ {l:List Int},l≠[]→u4 l∈l
 | [],h=>absurd rfl h
 |y::l,_=>by
  show l.foldl min y∈_
  rcases A0 l y with h|h
  ·rw[h];exact List.mem_cons_self
  exact List.mem_cons_of_mem _ h
theorem KC{l m:List Int}(h:l.Perm m)(hl:l≠[]):u4 l=u4 m:=by
 have h1:=MT (h.mem_iff.1 (Qd hl))
 have h2:=MT (h.mem_iff.2 (Qd (fun e=>hl (by rw[e] at h;exact h.eq_nil))))
 omega
theorem Hx:∀(l:List Int) (a:Int),a≤l.foldl max a∧∀x∈l,x≤l.foldl max a
 | [],a=>⟨Int.le_refl _,fun _ h=>(by cases h)⟩
 |y::l,a=>by
  obtain⟨h1,h2⟩:=Hx l (max a y)
  refine⟨by simp only[List.foldl_cons];omega,fun x hx=>?_⟩
  rcases List.mem_cons.1 hx with rfl|hx
  ·simp only[List.foldl_cons];omega
  exact h2 x hx
theorem A1:∀(l:List Int) (a:Int),l.foldl max a=a∨l.foldl max a∈l
 | [],_=> .inl rfl
 |y::l,a=>by
  simp only[List.foldl_cons]
  rcases A1 l (max a y) with h|h
  ·rw[h]
   rcases(by omega:max a y=a∨max a y=y) with e|e
   ·exact .inl e
   rw[e];exact .inr List.mem_cons_self
  exact .inr (List.mem_cons_of_mem _ h)
theorem Xh{l:List Int}{x:Int}(h:x∈l):x≤Cf l:=by
 cases l with
 |nil=>cases h
 |cons y l=>
  rcases List.mem_cons.1 h with rfl|h
  ·exact(Hx l _).1
  exact(Hx l _).2 x h
theorem Qe:∀ {l:List Int},l≠[]→Cf l∈l
 | [],h=>absurd rfl h
 |y::l,_=>by
  show l.foldl max y∈_
  rcases A1 l y with h|h
  ·rw[h];exact List.mem_cons_self
  exact List.mem_cons_of_mem _ h
theorem Z6{l m:List Int}(h:l.Perm m)(hl:l≠[]):Cf l=Cf m:=by
 have h1:=Xh (h.mem_iff.1 (Qe hl))
 have h2:=Xh (h.mem_iff.2 (Qe (fun e=>hl (by rw[e] at h;exact h.eq_nil))))
 omega
theorem MX{f:α→β}{l:List α}(h:l≠[]):l.map f≠[]:=fun e=>h (List.map_eq_nil_iff.1 e)
abbrev fsT:List cU:=[⟨2,1,true⟩,⟨0,1,true⟩]
theorem cC(h:0≤n∧n≤4):kV (aU n):=aqr (fs:=[]) h (by decide) (by simp) .nil
theorem cV:fe (aU n):=aqq (fs:=[]) (by decide) (by simp)
theorem cCT:kV (DY 2 fsT):=aqr (by decide) (by decide) (by decide) (by decide)
theorem cVT:fe (DY 2 fsT):=aqq (by decide) (by decide)
theorem rT:cY (aU 2)=4:=by kernel_rfl
theorem rL:u4 ((cR (aU 1) (aV (aU 1)) (fun _=>true) (dN (aU 1))).map FP)=2:=by kernel_rfl
theorem rLn:(cR (aU 1) (aV (aU 1)) (fun _=>true) (dN (aU 1))).length=0→False:=by
 have e:Nat.beq (cR (aU 1) (aV (aU 1)) (fun _=>true) (dN (aU 1))).length 0=false:=by kernel_rfl
 intro h;rw[h] at e;cases e
theorem r1n:(cR (aU 1) (aV (aU 1)) (cy (aU 1).gone (aU 1).new (aU 1).af) (dN (aU 1))).length=0→False:=by
 have e:Nat.beq (cR (aU 1) (aV (aU 1)) (cy (aU 1).gone (aU 1).new (aU 1).af) (dN (aU 1))).length 0=false:=by kernel_rfl
 intro h;rw[h] at e;cases e
theorem r2n:(cR (aU 2) (aV (aU 2)) (cy (aU 2).gone (aU 2).new (aU 2).af) (dN (aU 2))).length=0→False:=by
 have e:Nat.beq (cR (aU 2) (aV (aU 2)) (cy (aU 2).gone (aU 2).new (aU 2).af) (dN (aU 2))).length 0=false:=by kernel_rfl
 intro h;rw[h] at e;cases e
theorem rM1:u4 ((cR (aU 2) (aV (aU 2)) (cy (aU 2).gone (aU 2).new (aU 2).af) (dN (aU 2))).map fun x=>x.af)=0:=by kernel_rfl
theorem rM2:Cf ((cR (aU 2) (aV (aU 2)) (cy (aU 2).gone (aU 2).new (aU 2).af) (dN (aU 2))).map fun x=>x.af)=2:=by kernel_rfl
theorem rU:pz (aw (cR (aU 1) (aV (aU 1)) (cy (aU 1).gone (aU 1).new (aU 1).af) (dN (aU 1)))) (((cR (aU 1) (aV (aU 1)) (cy (aU 1).gone (aU 1).new (aU 1).af) (dN (aU 1))).length:Nat):Int) (aU 1).after.length (aU 1).before.length=[[0,0],[2,1]]:=by kernel_rfl
theorem rW:LW (DY 2 fsT) (dN (DY 2 fsT))=some 1:=by kernel_rfl
theorem rL1:mj 1 4=[0]:=by kernel_rfl
theorem rA:(VB (abj (aw (cR (aU 2) (aV (aU 2)) (cy (aU 2).gone (aU 2).new (aU 2).af) (dN (aU 2)))) (((cR (aU 2) (aV (aU 2)) (cy (aU 2).gone (aU 2).new (aU 2).af) (dN (aU 2))).length:Nat):Int) (aU 2).after.length (aU 2).before.length)).2.2=(2,0):=by kernel_rfl
theorem Zz{ro:Nat→Option Obj}(hK:fP ro l (aU 2)):BF zT 15 [.agg ⟨l⟩] ro [] (fun r Y=>r= .tuple ⟨[zI 4,zI 0]⟩∧Y=[]):=
 (GL hK (cC (by decide)) cV).mono fun v X h=>⟨by rw[h.1,rT];rfl,h.2⟩
theorem adq{ro:Nat→Option Obj}(hK:fP ro l (aU 1)):BF zT 36 [.agg ⟨l⟩] ro [] (fun r Y=>r= .tuple ⟨[zI 2,zI 0]⟩∧Y=[]):=
 (amc hK (cC (by decide)) cV).mono fun v X ⟨zs,m,e,hz,hY,hr,h⟩=>by
  rcases h with ⟨h,_⟩| ⟨h,hm,he⟩
  ·exact(rLn (by rw[←hz.length_eq,h];rfl)).elim
  exact⟨by rw[hr,hm,he,KC (hz.map FP) (MX h),rL],hY⟩
theorem ak1{ro:Nat→Option Obj}(hK:fP ro l (aU 1)):BF zT 22 [.agg ⟨l⟩] ro [] (fun r Y=>∃v,r= .tuple ⟨[v,zI 0]⟩∧∀aG,Knows aG Y→LL aG v [[0,0],[2,1]]):=
 (atr hK cV (mN (cC (by decide))) (wS hK (cC (by decide)) cV) Bb).mono fun r X ⟨zs,v,e,hz,hr,h⟩=>by
  rcases h with ⟨h,_⟩| ⟨h,he,hl⟩
  ·exact(r1n (by rw[←hz.length_eq,h];rfl)).elim
  refine⟨v,by rw[hr,he],fun aG hk=>?_⟩
  have:=hl aG hk
  rwa[Bc hz,hz.length_eq,rU] at this
theorem adp{ro:Nat→Option Obj}(hK:fP ro l (aU 2)):BF zT 35 [.agg ⟨l⟩] ro [] (fun r Y=>r= .tuple ⟨[.agg ⟨[zI 0,zI 2]⟩,zI 0]⟩∧Y=[]):=
 (atu hK cV (mN (cC (by decide))) (wS hK (cC (by decide)) cV)).mono fun r X ⟨zs,a,b,e,hz,hY,hr,h⟩=>by
  rcases h with ⟨h,_⟩| ⟨h,ha,hb,he⟩
  ·exact(r2n (by rw[←hz.length_eq,h];rfl)).elim
  exact⟨by rw[hr,ha,hb,he,KC (hz.map _) (MX h),Z6 (hz.map _) (MX h),rM1,rM2],hY⟩
theorem ar2{ro:Nat→Option Obj}(hK:fP ro l (aU 2)):BF zT 40 [.agg ⟨l⟩] ro [] (fun r Y=>∃a b,r= .tuple ⟨[zI a,zI b,zI 2,zI 0]⟩∧Y=[]):=
 (aPW hK cV (mN (cC (by decide))) (wS hK (cC (by decide)) cV) Bb).mono fun r X ⟨zs,a,b,w,e,hz,hY,hr,h⟩=>by
  rcases h with ⟨h,_⟩| ⟨h,ha⟩
  ·exact(r2n (by rw[←hz.length_eq,h];rfl)).elim
  rw[Bc hz,hz.length_eq] at ha
  have h2:=congrArg (fun x:Int×Int×Int×Int=>x.2.2) ha
  dsimp only at h2
  rw[rA] at h2
  cases h2
  exact⟨a,b,hr,hY⟩
theorem ado{ro:Nat→Option Obj}(hK:fP ro l (DY 2 fsT)):eG zT 37 [.agg ⟨l⟩] ro [] (fun r Y=>∃v,r= .tuple ⟨[v,zI 0]⟩∧az v 1 3 cA [0] Y):=
 Fn.mono (ata hK cVT (mN cCT) (wS hK cCT cVT) (by decide)) fun en s' ⟨r,X,h1,h2,v,e,hr,h⟩=>⟨r,X,h1,h2,by
  rcases h with ⟨m,hm,ho,he⟩| ⟨hm,_⟩
  ·rw[rW] at hm;cases hm
   rw[rL1] at ho
   exact⟨v,by rw[hr,he],ho⟩
  rw[rW] at hm;cases hm⟩
theorem aeT{ro:Nat→Option Obj}{v4 vf:Value}{fa:Option Addr}(h:fP ro [v0,v1,.slice fa 0 fc,v3,v4,v5,v6,v7,zI 1,zI 1,zI n,vb] (aU n))(hf:bE ro vf 3 pX fs):fP ro [v0,v1,.slice fa 0 fc,v3,v4,v5,v6,v7,zI 1,zI 1,zI n,vf] (DY n fs):=by
 obtain⟨w0,w1,w3,w4,w5,w6,w7,wb,ga,gc,hv,e,h1,h2,h3,h4,h5,h6,h7,_⟩:=h
 cases e
 exact⟨_,_,_,_,_,_,_,_,_,_,hv,rfl,h1,h2,h3,h4,h5,h6,h7,hf⟩
theorem OY{v4:Value}{fa fb:Option Addr}{fn fd:Nat}(h:∀v∈[v0,v1,v3,v4,v5,v6,v7,vb],single v=true):∀v∈[v0,v1,.slice fa 0 fc,v3,v4,v5,v6,v7,zI 1,zI 1,zI 2,.slice fb fn fd],single v=true:=by
 simp only[List.mem_cons,List.not_mem_nil,or_false] at h ⊢
 rintro v (rfl|rfl|rfl|rfl|rfl|rfl|rfl|rfl|rfl|rfl|rfl|rfl)<;>first|rfl|exact h _ (by simp)
theorem LL.up{ro aG:Nat→Option Obj}{v:Value}{W:List (List Int)}(h:LL ro v W)(hs:Sub ro aG):LL aG v W:=by
 obtain⟨ws,h1,h2⟩:=h
 exact⟨ws,h1.up hs,h2.imp fun _ _ k=>k.up hs⟩
theorem aHl(a b c d:Int):EqV zT 93 (.agg ⟨[zI a,zI b]⟩) (.agg ⟨[zI c,zI d]⟩) (a==c&&(b==d&&true)):=
 NL (ux (dep:=9999) (ny Tryz.typeInfo93 Tryz.underlying93 rfl rfl rfl rfl rfl rfl) Tryz.stoodInHeld93 (.cons (by decide) (ku mL rfl) (ku mL rfl) (oh mL _ _) (.cons (by decide) (ku mL rfl) (ku mL rfl) (oh mL _ _) .nil)))
theorem aPD:ov zT 93:=by unfold ov;kernel_rfl
theorem ak0{ro:Nat→Option Obj}:BF zT 9 [] ro [] (fun r Y=>r= .bool true∧Y=[]):=by
 refine yW au [] [] ba fun fr=>zD 6<|jc (vs:=[zI 2]) [] (LI) ?_
 rintro _ Y16 ⟨l16,rfl,aTY,Rb⟩
 refine jf [0] Y16 (fun yH bY iU=>?_)
 have aUB:=aTY _ iU
 refine Jb (vs:=[(.agg ⟨l16⟩)]) [] (fun _ _ h=>h) (Zz aUB) ?_
 rintro _ _ ⟨rfl,rfl⟩
 refine jg 0 []<|zD 8<|jc (vs:=[zI 1]) [] (LI) ?_
 rintro _ Y21 ⟨l21,rfl,aTX,aaJ⟩
 refine jf [0] Y21 (fun ro6 kF XQ=>?_)
 have anh:=aTX _ XQ
 refine Jb (vs:=[(.agg ⟨l21⟩)]) [] (fun _ _ h=>h) (ak1 anh) ?_
 rintro _ Y22 ⟨v22,rfl,aR1⟩
 refine zD 5<|jf [0] Y22 (fun ro9 sa hk8=>?_)
 have aT0:=aR1 _ hk8
 refine zD 3<|jc (vs:=[zI 2]) [] (LI) ?_
 rintro _ Y26 ⟨we,rfl,aTW,Js⟩
 refine jf [0] Y26 (fun bcE aCv aSh=>?_)
 have aUA:=aTW _ aSh
 refine Jb (vs:=[(.agg ⟨we⟩)]) [] (fun _ _ h=>h) (adp aUA) ?_
 rintro _ _ ⟨rfl,rfl⟩
 refine jg 0 []<|zD 3<|jn fun b5=>jd 5 [0]<|jc (vs:=[zI 1]) [] (LI) ?_
 rintro _ Y31 ⟨Qn,rfl,aTV,Ra⟩
 refine jf [0] Y31 (fun bcB aCt amQ=>?_)
 have aUz:=aTV _ amQ
 refine Jb (vs:=[(.agg ⟨Qn⟩)]) [] (fun _ _ h=>h) (adq aUz) ?_
 rintro _ _ ⟨rfl,rfl⟩
 refine jg 0 []<|zD 8<|jc (vs:=[zI 2]) [] (LI) ?_
 rintro _ Y36 ⟨l36,rfl,aTU,Nr⟩
 refine jp (vs:=[zI 2,zI 1,.bool true]) [] [] (fun aC hs hZ=>aHB)<|jp (vs:=[zI 0,zI 1,.bool true]) [] [] (fun aC hs hZ=>aHB)<|jn fun b39=>jf [1,0] (Y36++[(b39,.cells ⟨[zI 2,zI 1,.bool true,zI 0,zI 1,.bool true]⟩ 54 (0,0))]) (fun bcz aCs aaA=>?_)
 have aUx:=aTU _ (Knows.left aaA)
 have aSv:=bR (sz:=3) (enc:=pX) (T:=54) [⟨2,1,true⟩,⟨0,1,true⟩] (Knows.right aaA _ (.head _)) (fun _ _=>rfl)
 obtain⟨v0,v1,v3,v4,v5,v6,v7,vb,fa,fc,rfl,aQ6⟩:=Nr
 refine jp (vs:=[.agg ⟨[v0,v1,(.slice fa 0 fc),v3,v4,v5,v6,v7,zI 1,zI 1,zI 2,vb]⟩,(.slice (some ⟨b39,0,none⟩) 2 2)]) [] [] (fun aC hs hZ=>aHA (OY aQ6))<|jc (vs:=[.agg ⟨[v0,v1,(.slice fa 0 fc),v3,v4,v5,v6,v7,zI 1,zI 1,zI 2,(.slice (some ⟨b39,0,none⟩) 2 2)]⟩]) [] (ado (aeT aUx aSv)) ?_
 rintro _ Y41 ⟨v41,rfl,aRC⟩
 refine zD 8<|jc (vs:=[zI 2]) [] (LI) ?_
 rintro _ Y45 ⟨l45,rfl,aTT,anf⟩
 refine jf [0] Y45 (fun bcx aCr aSe=>?_)
 have aUw:=aTT _ aSe
 refine Jb (vs:=[(.agg ⟨l45⟩)]) [] (fun _ _ h=>h) (ar2 aUw) ?_
 rintro _ _ ⟨qa,qb,rfl,rfl⟩
 refine jg 0 []<|jd 49 [1]<|jeq aPD (aHl 0 2 0 2)<|zD 3<|jn fun b92=>jn fun b93=>jn fun b94=>jf [2,1,0] ((b92,.cells ⟨[zI 0,zI 0]⟩ 3 (0,0))::((b93,.cells ⟨[zI 2,zI 1]⟩ 3 (0,0))::[(b94,.cells ⟨[.slice (some ⟨b92,0,none⟩) 2 2,.slice (some ⟨b93,0,none⟩) 2 2]⟩ 22 (0,0))])) (fun bcw aCq au2=>?_)
 obtain⟨wsM,hsM,haM⟩:=aT0.up ((((aCv.trans aCt).trans aCs).trans aCr).trans aCq)
 have aQE:=bR (sz:=1) (enc:=gh) (T:=22) [.slice (some ⟨b92,0,none⟩) 2 2,.slice (some ⟨b93,0,none⟩) 2 2] (au2 _ (.tail _ (.tail _ (.head _)))) (fun _ _=>rfl)
 have aTL:=bR (sz:=1) (enc:=cA) (T:=3) [0,0] (au2 _ (.head _)) (fun _ _=>rfl)
 have aTK:=bR (sz:=1) (enc:=cA) (T:=3) [2,1] (au2 _ (.tail _ (.head _))) (fun _ _=>rfl)
 refine jp (vs:=[v22,(.slice (some ⟨b94,0,none⟩) 2 2)]) [] [] (fun aC hs hZ=>(show dt _ _ _ _ (.bool (EL [[0,0],[2,1]] [[0,0],[2,1]])) from awC (hsM.up hs) (aQE.up hs) (haM.imp fun _ _ h=>h.up hs) (.cons (aTL.up hs) (.cons (aTK.up hs) .nil)) (by decide) (by decide) (by decide) (by decide)))<|zD 3<|jn fun b99=>jp (vs:=[v41,.slice (some ⟨b99,0,none⟩) 1 1]) [1,0] (Y41++[(b99,.cells ⟨([0].map cA).flatten⟩ 3 (0,0))]) (fun aC hs hZ=>(show dt _ _ _ _ (.bool (HL [0] [0])) from aix (aRC.kZ hZ.left) (bR [0] hZ.right.head (by intro p hp;rfl)) (by decide) (by decide))) ?_
 refine zD 4<|Ja qC.a.a.a.a.a.a.a.a (.bool true) [3] [] (((((((bY.trans kF).trans sa).trans aCv).trans aCt).trans aCs).trans aCr).trans aCq) ⟨rfl,rfl⟩
theorem X5{n:Nat}(hn:n≤4)(hi:i <n):hasB (IntKind.u8.wrap (dD .u8 1 (n:Int)-1)) i=true:=by
 have h:(n=1∧i=0)∨(n=2∧(i=0∨i=1))∨(n=3∧(i=0∨i=1∨i=2))∨(n=4∧(i=0∨i=1∨i=2∨i=3)):=by omega
 rcases h with ⟨rfl,rfl⟩| ⟨rfl,rfl|rfl⟩| ⟨rfl,rfl|rfl|rfl⟩| ⟨rfl,rfl|rfl|rfl|rfl⟩<;>rfl
def vG(a b:Int)(l:List cU):Bool:=l.any fun x=>(decide (x.a=a)&&decide (x.b=b))&& !x.same
def oZ(p:Nat→Int)(l:List cU):Bool:=l.all fun x=> !x.same||decide (p x.a.toNat=x.b+1)
theorem Wq{on:Int}{a b:Int}:∀ {l:List cU} {k:Nat},(∀j,j <l.length→hasB on ((k+j:Nat):Int)=true)→BP on a b l k=vG a b l
 | [],_,_=>rfl
 |x::l,k,h=>by
  have h0:=h 0 (Nat.zero_lt_succ _)
  have ih:=Wq (a:=a) (b:=b) (l:=l) (k:=k+1) fun j hj=>by
   have:=h (j+1) (Nat.succ_lt_succ hj)
   rwa[show k+1+j=k+(j+1) by omega]
  simp only[Nat.add_zero] at h0
  simp only[BP,h0,ih,vG,List.any_cons,Bool.true_and]
theorem JZ{on:Int}{p:Nat→Int}:∀ {l:List cU} {k:Nat},(∀j,j <l.length→hasB on ((k+j:Nat):Int)=true)→lP on p l k=oZ p l
 | [],_,_=>rfl
 |x::l,k,h=>by
  have h0:=h 0 (Nat.zero_lt_succ _)
  have ih:=JZ (p:=p) (l:=l) (k:=k+1) fun j hj=>by
   have:=h (j+1) (Nat.succ_lt_succ hj)
   rwa[show k+1+j=k+(j+1) by omega]
  simp only[Nat.add_zero] at h0
  simp only[lP,h0,ih,oZ,List.all_cons,Bool.true_and]
  cases x.same<;>cases decide (p x.a.toNat=x.b+1)<;>simp
def gB(F:Nat→Nat→Bool)(R:(Nat→Int)→Bool)(na:Nat):Nat→Nat→(Nat→Int)→List (Nat→Int)
 |0,_,p=>bif R p then [p] else []
 |n+1,a,p=>gB F R na n (a+1) p++(List.range na).flatMap fun b=>bif !F a b||qD p a ((b:Int)+1) then [] else gB F R na n (a+1) (iD p a ((b:Int)+1))
def wE(K:aI)(a b:Nat):Bool:=match K.before[a]?,K.after[b]? with
 |some x,some y=> !zo K x y&&(!uB K x y&& !vG a b K.facts)
 |_,_=>false
theorem anA(h:K.facts.length≤4)(a b:Nat):dk K (aV K) a b=wE K a b:=by
 have e:BP (aV K) a b K.facts 0=vG a b K.facts:=Wq fun j hj=>by
  rw[Nat.zero_add];exact X5 h hj
 simp only[dk,wE,e]
 cases K.before[a]?<;>cases K.after[b]?<;>rfl
theorem oM(h:K.facts.length≤4):∀(n a:Nat) (p:Nat→Int),iO K (aV K) n a p=gB (wE K) (fun p=>oZ p K.facts) K.after.length n a p
 |0,a,p=>by
  have e:lP (aV K) p K.facts 0=oZ p K.facts:=JZ fun j hj=>by
   rw[Nat.zero_add];exact X5 h hj
  simp only[iO,gB,e]
 |n+1,a,p=>by
  simp only[iO,gB,anA h,oM h n]
theorem qF{F:Nat→Nat→Bool}{R:(Nat→Int)→Bool}:∀(n a:Nat) (p q:Nat→Int),q∈gB F R na n a p→∀c,c <a→q c=p c
 |0,_,p,q,h,c,_=>by
  simp only[gB] at h
  cases hr:R p
  ·rw[hr] at h;simp at h
  rw[hr] at h;simp at h;rw[h]
 |n+1,a,p,q,h,c,hc=>by
  simp only[gB,List.mem_append,List.mem_flatMap] at h
  rcases h with h| ⟨b,_,h⟩
  ·exact qF n _ _ _ h c (by omega)
  cases hx: !F a b||qD p a ((b:Int)+1)
  ·rw[hx] at h
   rw[qF n _ _ _ h c (by omega)]
   simp only[iD]
   rw[if_neg (by omega)]
  rw[hx] at h;simp at h
theorem pO{r:bF}{q:Nat}(hq:q <4):pI (cw K r i p) q=p q:=by
 rcases AI hq with rfl|rfl|rfl|rfl<;>rfl
noncomputable def Bn(K:aI):fy:=aw (cR K (aV K) (cy K.gone K.new K.af) (dN K))
theorem HC{p:Int→Bool}:∀(l:List Int) (k:Nat),bN p l k≥0↔∃x∈l,p x=true
 | [],k=>by simp[bN]
 |x::l,k=>by
  have ih:=HC (p:=p) l (k+1)
  simp only[bN,List.mem_cons,exists_eq_or_imp]
  cases h:p x
  ·simp only[cond_false,Bool.false_eq_true,false_or];exact ih
  simp only[cond_true,true_or,iff_true];omega
theorem Wc(p:Nat→Int){a:Nat}(ha:a≤4)(v:Int):v∈(pL p).take a↔∃c,c <a∧p c=v:=by
 have h:a=0∨a=1∨a=2∨a=3∨a=4:=by omega
 constructor
 ·intro hv
  rcases h with rfl|rfl|rfl|rfl|rfl<;>simp[pL] at hv
  ·exact⟨0,by omega,hv.symm⟩
  ·rcases hv with h|h;exact⟨0,by omega,h.symm⟩;exact⟨1,by omega,h.symm⟩
  ·rcases hv with h|h|h;exact⟨0,by omega,h.symm⟩;exact⟨1,by omega,h.symm⟩;exact⟨2,by omega,h.symm⟩
  rcases hv with h|h|h|h;exact⟨0,by omega,h.symm⟩;exact⟨1,by omega,h.symm⟩;exact⟨2,by omega,h.symm⟩;exact⟨3,by omega,h.symm⟩
 rintro⟨c,hc,rfl⟩
 have hc4:c=0∨c=1∨c=2∨c=3:=by omega
 rcases h with rfl|rfl|rfl|rfl|rfl<;>rcases hc4 with rfl|rfl|rfl|rfl<;>first|omega|simp[pL]
theorem Q7{a:Nat}{v:Int}(ha:a≤4):qD p a v=true↔∃c,c <a∧p c=v:=by
 simp only[qD,decide_eq_true_eq]
 rw[HC]
 constructor
 ·rintro⟨x,hx,h⟩
  obtain⟨c,hc,e⟩:=(Wc p ha x).1 hx
  exact⟨c,hc,by rw[e];exact(of_decide_eq_true h).symm⟩
 rintro⟨c,hc,e⟩
 exact⟨v,(Wc p ha v).2 ⟨c,hc,e⟩,decide_eq_true rfl⟩
theorem s8{F:Nat→Nat→Bool}{R:(Nat→Int)→Bool}:∀(n a:Nat) (p q:Nat→Int),a+n≤4→(q∈gB F R na n a p↔(∀c,c <a∨a+n≤c→q c=p c)∧(∀c,a≤c→c <a+n→q c=p c∨∃b,b <na∧F c b=true∧q c=(b:Int)+1∧∀d,d <c→q d≠(b:Int)+1)∧R q=true)
 |0,a,p,q,_=>by
  simp only[gB,Nat.add_zero]
  constructor
  ·intro h
   cases hr:R p
   ·rw[hr] at h;simp at h
   rw[hr] at h;simp at h;subst h;exact⟨fun _ _=>rfl,fun c h1 h2=>by omega,hr⟩
  rintro⟨h1,_,h3⟩
  have e:q=p:=funext fun c=>h1 c (by omega)
  subst e
  rw[h3];simp
 |n+1,a,p,q,han=>by
  simp only[gB,List.mem_append,List.mem_flatMap,List.mem_range]
  constructor
  ·rintro(h| ⟨b,hb,h⟩)
   ·obtain⟨h1,h2,h3⟩:=(s8 n (a+1) p q (by omega)).1 h
    refine⟨fun c hc=>h1 c (by omega),fun c hc1 hc2=>?_,h3⟩
    by_cases e:c=a
    ·exact .inl (h1 c (by omega))
    exact h2 c (by omega) (by omega)
   cases hx: !F a b||qD p a ((b:Int)+1)
   ·rw[hx] at h
    simp only[cond_false] at h
    obtain⟨h1,h2,h3⟩:=(s8 n (a+1) _ q (by omega)).1 h
    simp only[Bool.or_eq_false_iff,Bool.not_eq_false'] at hx
    have hp:∀c,c≠a→iD p a ((b:Int)+1) c=p c:=fun c hc=>by simp[iD,hc]
    refine⟨fun c hc=>by rw[h1 c (by omega),hp c (by omega)],fun c hc1 hc2=>?_,h3⟩
    by_cases e:c=a
    ·subst e
     have hq:q c=(b:Int)+1:=by rw[h1 c (by omega)];simp[iD]
     refine .inr ⟨b,hb,hx.1,hq,fun d hd hqd=>?_⟩
     have:qD p c ((b:Int)+1)=true:=(Q7 (by omega)).2 ⟨d,hd,by rw[←hqd,h1 d (by omega),hp d (by omega)]⟩
     rw[hx.2] at this;cases this
    rcases h2 c (by omega) (by omega) with h|h
    ·exact .inl (by rw[h,hp c e])
    exact .inr h
   rw[hx] at h;simp at h
  rintro⟨h1,h2,h3⟩
  rcases h2 a (Nat.le_refl _) (by omega) with he| ⟨b,hb,hF,hq,hd⟩
  ·left
   exact(s8 n (a+1) p q (by omega)).2 ⟨fun c hc=>by
    by_cases e:c=a
    ·rw[e];exact he
    exact h1 c (by omega),fun c hc1 hc2=>h2 c (by omega) (by omega),h3⟩
  right
  refine⟨b,hb,?_⟩
  have hx:(!F a b||qD p a ((b:Int)+1))=false:=by
   cases hh:qD p a ((b:Int)+1)
   ·simp[hF]
   obtain⟨c,hc,e⟩:=(Q7 (by omega)).1 hh
   exact absurd (by rw[h1 c (by omega),e]) (hd c hc)
  rw[hx]
  simp only[cond_false]
  refine(s8 n (a+1) _ q (by omega)).2 ⟨fun c hc=>?_,fun c hc1 hc2=>?_,h3⟩
  ·by_cases e:c=a
   ·rw[e,hq];simp[iD]
   rw[h1 c (by omega)];simp[iD,e]
  have:iD p a ((b:Int)+1) c=p c:=by simp[iD,show c≠a by omega]
  rw[this]
  exact h2 c (by omega) (by omega)
theorem mi(h:K.facts.length≤4)(hb:K.before.length≤4):q∈aO K (aV K)↔(∀c,q c=0∨(c <K.before.length∧∃b,b <K.after.length∧wE K c b=true∧q c=(b:Int)+1))∧(∀c d,d <c→q c=q d→q c=0)∧oZ q K.facts=true:=by
 rw[aO,oM h,s8 _ _ _ _ (by omega)]
 constructor
 ·rintro⟨h1,h2,h3⟩
  have key:∀c,q c=0∨(c <K.before.length∧∃b,b <K.after.length∧wE K c b=true∧q c=(b:Int)+1∧∀d,d <c→q d≠(b:Int)+1):=fun c=>by
   by_cases hc:c <K.before.length
   ·rcases h2 c (Nat.zero_le _) (by omega) with e| ⟨b,h⟩
    ·exact .inl e
    exact .inr ⟨hc,b,h⟩
   exact .inl (h1 c (.inr (by omega)))
  refine⟨fun c=>?_,fun c d hd e=>?_,h3⟩
  ·rcases key c with e| ⟨hc,b,hb1,fY,hb3,_⟩
   ·exact .inl e
   exact .inr ⟨hc,b,hb1,fY,hb3⟩
  rcases key c with e2| ⟨hc,b,_,_,hq,dX⟩
  ·exact e2
  exact absurd (by rw[←e,hq]) (dX d hd)
 rintro⟨h1,h2,h3⟩
 refine⟨fun c hc=>?_,fun c _ hc=>?_,h3⟩
 ·rcases h1 c with e| ⟨hc2,_⟩
  ·exact e
  omega
 rcases h1 c with e| ⟨_,b,hb1,fY,hq⟩
 ·exact .inl e
 refine .inr ⟨b,hb1,fY,hq,fun d hd e=>?_⟩
 have:=h2 c d hd (by rw[hq,e])
 omega
theorem wB{F:Nat→Nat→Bool}{R:(Nat→Int)→Bool}:∀(n a:Nat) (p:Nat→Int),(∀c,a≤c→p c=0)→(gB F R na n a p).Nodup
 |0,_,p,_=>by
  simp only[gB]
  cases R p<;>simp
 |n+1,a,p,hp=>by
  simp only[gB]
  have h0:∀c,a+1≤c→p c=0:=fun c hc=>hp c (by omega)
  have hb:∀b:Nat,∀c,a+1≤c→iD p a ((b:Int)+1) c=0:=fun b c hc=>by
   simp[iD,show c≠a by omega,hp c (by omega)]
  have val:∀b q,q∈(bif !F a b||qD p a ((b:Int)+1) then [] else gB F R na n (a+1) (iD p a ((b:Int)+1)))→q a=(b:Int)+1:=fun b q h=>by
   cases hx: !F a b||qD p a ((b:Int)+1)
   ·rw[hx] at h
    simp only[cond_false] at h
    rw[qF n _ _ _ h a (by omega)];simp[iD]
   rw[hx] at h;simp at h
  refine List.nodup_append.2 ⟨wB n _ _ h0,?_,fun q hq q' Fa e=>?_⟩
  ·refine List.pairwise_flatMap.2 ⟨fun b _=>?_,?_⟩
   ·cases !F a b||qD p a ((b:Int)+1)
    ·exact wB n _ _ (hb b)
    simp
   refine List.nodup_range.imp fun {b b'} Jr x hx y hy e=>?_
   have h1:=val b x hx
   have h2:=val b' y hy
   rw[e] at h1
   omega
  obtain⟨b,_,h⟩:=List.mem_flatMap.1 Fa
  have h1:=val b q' h
  have h2:=qF n _ _ _ hq a (by omega)
  rw[hp a (Nat.le_refl _),e] at h2
  omega
theorem PK(h:K.facts.length≤4):(aO K (aV K)).Nodup:=by
 rw[aO,oM h]
 exact wB _ _ _ fun _ _=>rfl
theorem x3{f:α→β}:∀ {l:List α} {m:List β},l.Nodup→(∀x∈l,f x∈m)→(∀x∈l,∀y∈l,f x=f y→x=y)→l.length≤m.length
 | [],_,_,_,_=>Nat.zero_le _
 |x::l,m,hn,hm,hi=>by
  obtain⟨m1,m2,rfl⟩:=List.append_of_mem (hm x List.mem_cons_self)
  have hn':=List.nodup_cons.1 hn
  have:=x3 (f:=f) (l:=l) (m:=m1++m2) hn'.2 (fun y hy=>by
   have h1:=hm y (List.mem_cons_of_mem _ hy)
   simp only[List.mem_append,List.mem_cons] at h1 ⊢
   rcases h1 with h|h|h
   ·exact .inl h
   ·exact absurd (hi y (List.mem_cons_of_mem _ hy) x List.mem_cons_self h) (fun e=>hn'.1 (e▸hy))
   exact .inr h) (fun a ha b hb=>hi a (List.mem_cons_of_mem _ ha) b (List.mem_cons_of_mem _ hb))
  simp only[List.length_cons,List.length_append] at this ⊢
  omega
def px(n m:Int):Int:=if n=m then 1 else if n=0 then 2 else 3
theorem aBI{m:Int}{ro:Nat→Option Obj}:dt zT 53 [zI n,zI m] ro (zI (px n m)):=by
 refine bD au [] [] ba<|zD 16<|zJ 6 (n=m) (fun h1=>?_) fun h1=>?_
 ·
  refine zD 6<|aF q0 (zI 1) [] [] [] (Sub.refl _) ⟨_,_,rfl,rfl,by rw[px,if_pos (by omega)],rfl⟩
 refine zD 6<|zJ 9 (n=0) (fun h2=>?_) fun h2=>?_
 ·
  refine zD 6<|aF q0 (zI 2) [] [] [] (Sub.refl _) ⟨_,_,rfl,rfl,by rw[px,if_neg (by omega),if_pos (by omega)],rfl⟩
 refine zD 7<|aF q0 (zI 3) [] [] [] (Sub.refl _) ⟨_,_,rfl,rfl,by rw[px,if_neg (by omega),if_neg (by omega)],rfl⟩
theorem alL{m:fy}{a:Nat}(h:a <4):Gk true (zi m) ((a:Int).toNat*4) 4=some (.agg ⟨[zI (m.c a 0),zI (m.c a 1),zI (m.c a 2),zI (m.c a 3)]⟩):=by
 rcases AI h with rfl|rfl|rfl|rfl<;>rfl
theorem arU{m:fy}{a:Nat}(h:b <4):Gk false [zI (m.c a 0),zI (m.c a 1),zI (m.c a 2),zI (m.c a 3)] ((b:Int).toNat*1) 1=some (zI (m.c a b)):=by
 rcases AI h with rfl|rfl|rfl|rfl<;>rfl
theorem atf{rows:List bF}{a:Nat}{ro:Nat→Option Obj}(hK:fP ro l K)(hV:fe K)(hB:ia ro l K rows)(BA:a <K.before.length)(Jr:b <K.after.length):eG zT 52 [.agg ⟨l⟩,zI (a:Int),zI (b:Int)] ro [] (fun r Y=>∃f,r= .tuple ⟨[pV f,zI 0]⟩∧(∀aG,Sub ro aG→Knows aG Y→pq aG f K rows)):=by
 obtain⟨v0,v1,v3,v4,v5,v6,v7,vb,fa,fc,hv,rfl,_,_,_,_,_,hb,ha,_⟩:=id hK
 obtain⟨lg,ME,MC,k9,rfl,MD,Kc,Kb⟩:=hb
 obtain⟨kD,I5,I0,j7,rfl,I1,Gb,Ga⟩:=ha
 have AS:=hV.before.1
 have DM:=hV.after.1
 refine bD au [] [] ba<|zD 2<|jn fun b3=>jd 6 [0]<|jc (vs:=[.agg ⟨[v0,v1,.slice fa 0 fc,v3,v4,v5,.slice lg K.before.length k9,.slice kD K.after.length j7,zI K.gone,zI K.new,zI K.af,vb]⟩]) [] (hB _ (Sub.refl _)) ?_
 rintro _ Y12 ⟨f12,rfl,awb⟩
 refine jd 22 [1]<|ja ((K.before.length:Int)-1) (by omega)<|jp (vs:=[zI (a:Int),zI 0,zI ((K.before.length:Int)-1)]) [] [] (fun aC hs hZ=>eN)<|zD 3<|js 19 (!(iz (a:Int) 0 ((K.before.length:Int)-1))) (fun h1=>?_) (fun h1=>?_)
 ·
  try simp only[zB] at h1
  exfalso;simp only[iz,Bool.and_eq_false_iff,decide_eq_false_iff_not] at h1;omega
 try simp only[zB] at h1
 refine jd 6 [1]<|ja ((K.after.length:Int)-1) (by omega)<|jp (vs:=[zI (b:Int),zI 0,zI ((K.after.length:Int)-1)]) [] [] (fun aC hs hZ=>eN)<|zD 3<|js 19 (!(iz (b:Int) 0 ((K.after.length:Int)-1))) (fun h2=>?_) (fun h2=>?_)
 ·
  try simp only[zB] at h2
  exfalso;simp only[iz,Bool.and_eq_false_iff,decide_eq_false_iff_not] at h2;omega
 try simp only[zB] at h2
 refine zD 9<|aF q0 (.tuple ⟨[zP f12,zI 0]⟩) [] [0] Y12 (Sub.refl _) ⟨_,_,rfl,rfl,f12,rfl,awb⟩
theorem Qq{rows:List bF}{a:Nat}{ro:Nat→Option Obj}(hK:fP ro l K)(hV:fe K)(hR:rows.length≤2)(hB:ia ro l K rows)(hCt:qQ)(BA:a <K.before.length)(Jr:b <K.after.length):BF zT 16 [.agg ⟨l⟩,zI (a:Int),zI (b:Int)] ro [] (fun r Y=>∃zs v e,zs.Perm (cR K (aV K) (cy K.gone K.new K.af) rows)∧Y=[]∧r= .tuple ⟨[zI v,zI e]⟩∧((zs=[]∧e=9∧v=0)∨(zs≠[]∧e=0∧v=px ((aw zs).c a b) ((zs.length:Nat):Int)))):=by
 obtain⟨v0,v1,v3,v4,v5,v6,v7,vb,fa,fc,hv,rfl,_⟩:=id hK
 have AS:=hV.before.1
 have DM:=hV.after.1
 refine yW au [] [] ba fun fr=>zD 2<|jn fun b3=>jd 8 [0]<|jc (vs:=[.agg ⟨[v0,v1,.slice fa 0 fc,v3,v4,v5,v6,v7,zI K.gone,zI K.new,zI K.af,vb]⟩,zI (a:Int),zI (b:Int)]) [] (atf hK hV hB BA Jr) ?_
 rintro _ Y15 ⟨f15,rfl,aUD⟩
 refine zD 5<|jf [0] Y15 (fun yH bY iU=>?_)
 have CH:=aUD _ bY iU
 refine zD 12<|Jb (vs:=[zP f15]) [] (fun _ _ h=>h) (M4 CH hV hR) ?_
 rintro _ Y23 ⟨zs,v23,e23,rfl,hz,aRF,he⟩
 have Ji:∀x∈zs,(-4≤x.gone∧x.gone≤4)∧(-4≤x.new∧x.new≤4)∧(0≤x.af∧x.af≤4):=fun x hx=>by obtain⟨i,r,p,_,_,rfl,_⟩:=eR (hz.mem_iff.1 hx);exact kN hV r i p
 have Ua:zs.length≤1250:=by rw[hz.length_eq];exact lJ hV _ _ hR
 have hpr:∀x∈zs,∀q,0≤pI x q∧pI x q≤4:=fun x hx=>by obtain⟨i,r,p,_,hp,rfl,_⟩:=eR (hz.mem_iff.1 hx);exact xp ((gi hV _).2 p hp)
 refine zD 5<|jf [0] Y23 (fun ro6 kF XQ=>?_)
 have UL:=aRF.kZ XQ
 obtain⟨mP,B1,BZ,lR,rfl,B0,yL,yK⟩:=UL
 refine zD 7<|js 27 (!decide (e23=0)) (fun h7=>?_) (fun h7=>?_)
 ·
  replace h7:=of_decide_eq_false (by simpa using h7)
  have oV:zs=[]∧e23=9:=by rcases he with h| ⟨_,h⟩;exact h;omega
  refine zD 8<|Ja qC.a.a (.tuple ⟨[zI 0,zI e23]⟩) [1] [] (bY.trans kF) ⟨zs,_,_,hz,rfl,rfl,.inl ⟨oV.1,oV.2,rfl⟩⟩
 replace h7:=of_decide_eq_true (by simpa using h7)
 have oV:zs≠[]∧e23=0:=by rcases he with ⟨_,h⟩|h;omega;exact h
 refine zD 5<|jc (vs:=[.slice mP zs.length lR]) [] (hCt (show bE _ _ _ _ _ from ⟨mP,B1,BZ,lR,rfl,B0,yL,yK⟩) (by omega) hpr) ?_
 rintro _ _ ⟨rfl,rfl⟩
 refine jg 0 []<|zD 1<|jai (l:=zi (aw zs)) (a:Int) 4 4 true (by omega) (alL (m:=aw zs) (by omega))<|zD 1<|jai (b:Int) 4 1 false (by omega) (arU (m:=aw zs) (a:=a) (by omega))<|zD 2<|jp (vs:=[zI ((aw zs).c a b),zI (zs.length:Int)]) [] [] (fun aC hs hZ=>aBI)<|zD 4<|Ja qC.a.a (.tuple ⟨[zI (px ((aw zs).c a b) (zs.length:Int)),zI 0]⟩) [1] [] (bY.trans kF) ⟨zs,_,_,hz,rfl,rfl,.inr ⟨oV.1,rfl,rfl⟩⟩
theorem FO{f g:α→Nat}:∀ {l:List α},(∀x∈l,f x≤g x)→(l.map f).sum≤(l.map g).sum
 | [],_=>Nat.le_refl _
 |x::l,h=>by
  have h1:=h x List.mem_cons_self
  have h2:=FO (f:=f) (g:=g) (l:=l) fun y hy=>h y (List.mem_cons_of_mem _ hy)
  simp only[List.map_cons,List.sum_cons]
  omega
theorem ai9{p q:α→Bool}:∀ {l:List α},(∀x∈l,p x=q x)→l.any p=l.any q
 | [],_=>rfl
 |x::l,h=>by rw[List.any_cons,List.any_cons,h x List.mem_cons_self,ai9 fun y hy=>h y (List.mem_cons_of_mem _ hy)]
theorem R9{on:Int}{keep P:ai→Bool}{rows:List bF}:(cR K on keep rows).countP P=((List.range rows.length).map fun i=>(aO K on).countP fun q=>P (cw K ((rows[i]?).getD ⟨fun _ _=>false⟩) i q)&&keep (cw K ((rows[i]?).getD ⟨fun _ _=>false⟩) i q)).sum:=by
 simp only[cR,iJ,List.countP_flatten,List.map_map]
 congr 1
 refine List.map_congr_left fun i _=>?_
 simp only[Function.comp,nz,List.countP_filter,List.countP_map]
 rfl
theorem Vo{P P':α→Bool}{f:α→α}{l m:List α}(hl:l.Nodup)(hm:∀x∈l,P x=true→f x∈m∧P' (f x)=true)(hi:∀x∈l,∀y∈l,f x=f y→x=y):l.countP P≤m.countP P':=by
 rw[List.countP_eq_length_filter,List.countP_eq_length_filter]
 refine x3 (f:=f) (List.Pairwise.filter _ hl) (fun x hx=>?_) fun x hx y hy=>hi x (List.mem_filter.1 hx).1 y (List.mem_filter.1 hy).1
 have:=List.mem_filter.1 hx
 exact List.mem_filter.2 (hm x this.1 this.2)
theorem an8{on':Int}{keep KL P P':ai→Bool}{rows Pr:List bF}{f:(Nat→Int)→Nat→Int}(hf:K.facts.length≤4)(hl:rows.length=Pr.length)
 (hp:∀q∈aO K (aV K),f q∈aO K' on')(hi:∀q∈aO K (aV K),∀p∈aO K (aV K),f q=f p→q=p)
 (hk:∀i r r',rows[i]?=some r→Pr[i]?=some r'→∀q∈aO K (aV K),P (cw K r i q)=true→keep (cw K r i q)=true→P' (cw K' r' i (f q))=true∧KL (cw K' r' i (f q))=true):
 (cR K (aV K) keep rows).countP P≤(cR K' on' KL Pr).countP P':=by
 rw[R9,R9,←hl]
 refine FO fun i QU=>?_
 have h1:=List.mem_range.1 QU
 have e1:rows[i]?=some rows[i]:=List.getElem?_eq_getElem h1
 have e2:Pr[i]?=some (Pr[i]'(hl▸h1)):=List.getElem?_eq_getElem _
 rw[e1,e2]
 simp only[Option.getD_some]
 refine Vo (f:=f) (PK hf) (fun q hq h=>?_) hi
 simp only[Bool.and_eq_true] at h ⊢
 exact⟨hp q hq,hk i _ _ e1 e2 q hq h.1 h.2⟩
theorem PH(p:Nat→Int):rX (pL p)=(if p 0>0 then 1 else 0)+(if p 1>0 then 1 else 0)+(if p 2>0 then 1 else 0)+(if p 3>0 then 1 else 0):=by
 simp only[rX,pL,List.filter_cons,List.filter_nil,decide_eq_true_eq]
 split<;>split<;>split<;>split<;>simp
abbrev iS(K:aI)(A:List ay)(F:List cU):aI:={K with after:=A,facts:=F}
structure q7(f:Nat→Nat)(K:aI)(A:List ay)(F:List cU):Prop where
 len:A.length=K.after.length
 rng:∀b,b <K.after.length→f b <K.after.length
 inj:∀b c,b <K.after.length→c <K.after.length→f b=f c→b=c
 c8:∀b,b <K.after.length→A[f b]?=K.after[b]?
 fac:F=K.facts.map fun t=>⟨t.a,(f t.b.toNat:Int),t.same⟩
 fok:∀t∈K.facts,0≤t.b∧t.b <K.after.length
def FY(f:Nat→Nat)(q:Nat→Int):Nat→Int:=fun c=>if q c≤0 then 0 else (f (q c-1).toNat:Int)+1
theorem J1{c:Nat}(h:q c≤0):FY f q c=0:=if_pos h
theorem sR{c:Nat}(h:0 <q c):FY f q c=(f (q c-1).toNat:Int)+1:=if_neg (by omega)
theorem Wy(c:Nat):(FY f q c>0)=(q c>0):=propext (by
 by_cases h:q c≤0
 ·rw[J1 h];omega
 rw[sR (by omega)];omega)
theorem q7.fit{A:List ay}(h:q7 f K A F){c:Nat}(hb:b <K.after.length):wE (iS K A F) c (f b)=wE K c b:=by
 have e4:vG c (f b) F=vG c b K.facts:=by
  rw[h.fac,vG,vG,List.any_map]
  refine ai9 fun t ht=>?_
  have hr:=h.fok t ht
  have e:decide (((f t.b.toNat:Nat):Int)=((f b:Nat):Int))=decide (t.b=(b:Int)):=decide_eq_decide.2 ⟨fun e=>by
   have:=h.inj t.b.toNat b (by omega) hb (by omega)
   omega,fun e=>by rw[e];rfl⟩
  simp only[Function.comp,e]
 simp only[wE,h.c8 b hb,e4]
 rfl
theorem q7.mem{A:List ay}(h:q7 f K A F)(hf:K.facts.length≤4)(hb:K.before.length≤4)(hq:q∈aO K (aV K)):FY f q∈aO (iS K A F) (aV (iS K A F)):=by
 obtain⟨h1,h2,h3⟩:=(mi hf hb).1 hq
 refine(mi (K:=iS K A F) (by show F.length≤4;rw[h.fac,List.length_map];exact hf) hb).2 ⟨fun c=>?_,fun c d hd e=>?_,?_⟩
 ·rcases h1 c with e| ⟨hc,b,Fh,oK,e⟩
  ·exact .inl (J1 (by omega))
  exact .inr ⟨hc,f b,by show f b <A.length;rw[h.len];exact h.rng b Fh,by rw[h.fit Fh];exact oK,by rw[sR (by omega),show (q c-1).toNat=b by omega]⟩
 ·rcases h1 c with e0| ⟨hc,b,Fh,_,e1⟩
  ·exact J1 (by omega)
  rcases h1 d with e0| ⟨_,b',aTe,_,e2⟩
  ·rw[sR (by omega),J1 (by omega)] at e;omega
  rw[sR (by omega),sR (c:=d) (by omega)] at e
  have:=h.inj (q c-1).toNat (q d-1).toNat (by omega) (by omega) (by omega)
  have:=h2 c d hd (by omega)
  omega
 rw[oZ,List.all_eq_true] at h3 ⊢
 intro x hx
 have hx:x∈F:=hx
 rw[h.fac] at hx
 obtain⟨t,ht,rfl⟩:=List.mem_map.1 hx
 have h4:=h3 t ht
 have hr:=h.fok t ht
 simp only[Bool.or_eq_true,decide_eq_true_eq] at h4 ⊢
 rcases h4 with h4|h4
 ·exact .inl h4
 exact .inr (by rw[sR (by omega),h4,show (t.b+1-1).toNat=t.b.toNat by omega])
theorem q7.uniq{A:List ay}(h:q7 f K A F)(hf:K.facts.length≤4)(hb:K.before.length≤4)(hq:q∈aO K (aV K))(hp:p∈aO K (aV K))(e:FY f q=FY f p):q=p:=by
 obtain⟨h1,_,_⟩:=(mi hf hb).1 hq
 obtain⟨h2,_,_⟩:=(mi hf hb).1 hp
 funext c
 have e:=congrFun e c
 have hn:q c≤0∨0 <q c:=by omega
 have hm:p c≤0∨0 <p c:=by omega
 rcases h1 c with e0| ⟨_,b,Fh,_,e1⟩<;>rcases h2 c with e2| ⟨_,b',aTe,_,e3⟩
 ·omega
 ·rw[J1 (by omega),sR (by omega)] at e;omega
 ·rw[sR (by omega),J1 (by omega)] at e;omega
 rw[sR (by omega),sR (q:=p) (by omega)] at e
 have:=h.inj (q c-1).toNat (p c-1).toNat (by omega) (by omega) (by omega)
 omega
theorem Wz{r r':bF}{n:Nat}(hr:∀c b,b <n→r'.c c (f b)=r.c c b)(hq:∀c,q c≤n):∀k,Cb r' (FY f q) k=Cb r q k
 |0=>rfl
 |k+1=>by
  simp only[Cb,Wz hr hq k,Wy]
  congr 1
  by_cases hp:q k>0
  ·have h1:=hq k
   rw[show (FY f q k-1).toNat=f (q k-1).toNat by rw[sR (by omega)];omega,hr k _ (by omega)]
  rw[decide_eq_false hp];rfl
theorem q7.row{A:List ay}(h:q7 f K A F){r r':bF}(h1:(dN K)[i]?=some r) (h2:(dN (iS K A F))[i]?=some r') (c b:Nat) (hb:b <K.after.length):r'.c c (f b)=r.c c b:=by
 have h3:((WW K).map (lf (iS K A F) (TD K.str K.ways)))[i]?=some r':=h2
 rw[dN,List.getElem?_map] at h1
 rw[List.getElem?_map] at h3
 cases hw:(WW K)[i]? with
 |none=>rw[hw] at h1;cases h1
 |some w=>
  rw[hw] at h1 h3
  simp only[Option.map_some,Option.some.injEq] at h1 h3
  subst h1 h3
  simp only[lf,h.c8 b hb]
theorem q7.le{A:List ay}(h:q7 f K A F)(hf:K.facts.length≤4)(hb:K.before.length≤4){P P':ai→Bool}(hP:∀r r' i,∀q∈aO K (aV K),P (cw K r i q)=true→P' (cw (iS K A F) r' i (FY f q))=true):
 (cR K (aV K) (cy K.gone K.new K.af) (dN K)).countP P≤(cR (iS K A F) (aV (iS K A F)) (cy K.gone K.new K.af) (dN (iS K A F))).countP P':=by
 refine an8 (f:=FY f) hf ?_ (fun q hq=>h.mem hf hb hq) (fun q hq p hp=>h.uniq hf hb hq hp) fun i r r' h1 h2 q hq hp hk=>⟨hP r r' i q hq hp,?_⟩
 ·rw[dN,dN,List.length_map,List.length_map];rfl
 have hq2:∀c,q c≤K.after.length:=fun c=>by
  rcases((mi hf hb).1 hq).1 c with e| ⟨_,b,hb,_,e⟩<;>omega
 have e1:rX (pL (FY f q))=rX (pL q):=by rw[PH,PH];simp only[Wy]
 have e2:=Wz (h.row h1 h2) hq2 4
 simp only[cy,cw,e1,e2] at hk ⊢
 rw[show (iS K A F).after.length=K.after.length from h.len]
 exact hk
theorem q7.back{g:Nat→Nat}{A:List ay}(h:q7 f K A F)(hr:∀o,o <K.after.length→g o <K.after.length)(hg:∀o,o <K.after.length→f (g o)=o):q7 g (iS K A F) K.after K.facts where
 len:=h.len.symm
 rng:=fun b hb=>by have:=h.len;exact this▸hr b (this▸hb)
 inj:=fun b c hb hc e=>by
  have hb:b <K.after.length:=h.len▸hb
  have hc:c <K.after.length:=h.len▸hc
  rw[←hg b hb,←hg c hc,e]
 c8:=fun b hb=>by
  have hb:b <K.after.length:=h.len▸hb
  have:=h.c8 (g b) (hr b hb)
  rw[hg b hb] at this
  exact this.symm
 fac:=by
  show K.facts=List.map _ F
  rw[h.fac,List.map_map]
  refine Eq.trans (List.map_id K.facts).symm (List.map_congr_left fun t ht=>?_)
  have h1:=h.fok t ht
  have e:g (f t.b.toNat)=t.b.toNat:=h.inj _ _ (hr _ (h.rng _ (by omega))) (by omega) (hg _ (h.rng _ (by omega)))
  show t=⟨t.a,((g ((f t.b.toNat:Nat):Int).toNat:Nat):Int),t.same⟩
  rw[Int.toNat_natCast,e,Int.toNat_of_nonneg h1.1]
 fok:=fun t ht=>by
  have ht:t∈F:=ht
  rw[h.fac] at ht
  obtain⟨u,hu,rfl⟩:=List.mem_map.1 ht
  have h1:=h.fok u hu
  have h2:=h.rng u.b.toNat (by omega)
  have h3:=h.len
  exact⟨by dsimp only;omega,by show ((f u.b.toNat:Nat):Int) <(A.length:Int);omega⟩
theorem akY{A:List ay}(h:q7 f K A F)(hf:K.facts.length≤4)(hb:K.before.length≤4)(hs:∀o,o <K.after.length→∃b,b <K.after.length∧f b=o):
 cY (iS K A F)=cY K∧∀a b,a <4→b <K.after.length→(Bn (iS K A F)).c a (f b)=(Bn K).c a b:=by
 obtain⟨g,hr,hg⟩:∃g:Nat→Nat,(∀o,o <K.after.length→g o <K.after.length)∧∀o,o <K.after.length→f (g o)=o:=
  ⟨fun o=>if h:∃b,b <K.after.length∧f b=o then Classical.choose h else 0,fun o ho=>by
   dsimp only
   rw[dif_pos (hs o ho)];exact(Classical.choose_spec (hs o ho)).1,fun o ho=>by
   dsimp only
   rw[dif_pos (hs o ho)];exact(Classical.choose_spec (hs o ho)).2⟩
 have h':=h.back hr hg
 have hf':(iS K A F).facts.length≤4:=by show F.length≤4;rw[h.fac,List.length_map];exact hf
 have key:∀(K:aI) (a b:Nat),(Bn K).c a b=(((cR K (aV K) (cy K.gone K.new K.af) (dN K)).countP fun x=>decide (pI x a=(b:Int)+1):Nat):Int):=fun K a b=>by
  rw[List.countP_eq_length_filter];rfl
 refine⟨?_,fun a b ha Fh=>?_⟩
 ·have h1:=h.le hf hb (P:=fun _=>true) (P':=fun _=>true) fun _ _ _ _ _ _=>rfl
  have h2:=h'.le hf' hb (P:=fun _=>true) (P':=fun _=>true) fun _ _ _ _ _ _=>rfl
  simp only[List.countP_true] at h1 h2
  exact Nat.le_antisymm h2 h1
 have h1:=h.le hf hb (P:=fun x=>decide (pI x a=(b:Int)+1)) (P':=fun x=>decide (pI x a=(f b:Int)+1)) fun r r' i q _ hp=>by
  rw[decide_eq_true_eq,pO ha] at hp ⊢
  rw[sR (by omega),hp,show ((b:Int)+1-1).toNat=b by omega]
 have h2:=h'.le hf' hb (P:=fun x=>decide (pI x a=(f b:Int)+1)) (P':=fun x=>decide (pI x a=(b:Int)+1)) fun r r' i q _ hp=>by
  rw[decide_eq_true_eq,pO ha] at hp ⊢
  have e:g (f b)=b:=h.inj _ _ (hr _ (h.rng b Fh)) Fh (hg _ (h.rng b Fh))
  rw[sR (by omega),hp,show ((f b:Int)+1-1).toNat=f b by omega,e]
 rw[key,key]
 have:=Nat.le_antisymm h2 h1
 exact congrArg _ this
def sX(s:List Int)(b:Nat):Nat:=((s[b]?).getD 0).toNat
theorem Mt(n:Nat):(cD n).Nodup:=by
 rw[cD]
 exact List.Pairwise.map _ (fun a b h e=>h (by have e:(a:Int)=(b:Int):=e;omega)) List.nodup_range
theorem Gp{n:Nat}(h:s.Perm (cD n))(hb:b <n):s[b]?=some (sX s b:Int)∧sX s b <n:=by
 have hl:b <s.length:=by rw[h.length_eq,gz];exact hb
 have e:s[b]?=some s[b]:=List.getElem?_eq_getElem hl
 have hm:=ig (h.mem_iff.1 (List.getElem_mem hl))
 simp only[sX,e,Option.getD_some]
 exact⟨by congr 1;omega,by omega⟩
theorem WR{n:Nat}(h:s.Perm (cD n)){c:Nat}(hb:b <n)(hc:c <n)(e:sX s b=sX s c):b=c:=by
 have h1:=(Gp h hb).1
 have h2:=(Gp h hc).1
 rw[e,←h2] at h1
 have hn:s.Nodup:=h.nodup_iff.2 (Mt n)
 exact(List.getElem?_inj (by rw[h.length_eq,gz];exact hb) hn).1 h1
theorem alp{n:Nat}(h:s.Perm (cD n)){o:Nat}(ho:o <n):∃b,b <n∧sX s b=o:=by
 have hm:(o:Int)∈s:=h.mem_iff.2 (by rw[cD];exact List.mem_map.2 ⟨o,List.mem_range.2 ho,rfl⟩)
 obtain⟨b,hb⟩:=List.getElem?_of_mem hm
 have hl:b <n:=by have:=(List.getElem?_eq_some_iff.1 hb).1;rwa[h.length_eq,gz] at this
 refine⟨b,hl,?_⟩
 simp only[sX,hb,Option.getD_some,Int.toNat_natCast]
def abx(s:List Int)(K:aI)(A:List ay)(i:Nat):Prop:=A.length=K.after.length∧∀j,j <i→A[sX s j]?=K.after[j]?
theorem adY(h:s[i]?=some o):sX s i=o.toNat:=by simp[sX,h]
theorem abx.next{A:List ay}{x:ay}(hs:s.Perm (cD K.after.length))(h:abx s K A i)(ho:s[i]?=some o) (hx:K.after[i]?=some x):abx s K (A.set o.toNat x) (i+1):=by
 rw[←adY ho]
 have hi:=(List.getElem?_eq_some_iff.1 hx).1
 refine⟨by rw[List.length_set];exact h.1,fun j hj=>?_⟩
 by_cases e:j=i
 ·subst e
  rw[hx,List.getElem?_set_self (by rw[h.1];exact(Gp hs hi).2)]
 have dX:sX s i≠sX s j:=fun e2=>e (WR hs hi (by omega) e2).symm
 rw[List.getElem?_set_ne dX]
 exact h.2 j (by omega)
def pM(s:List Int)(fs:List cU)(i:Nat):List cU:=(fs.take i).map (fun t=>⟨t.a,(sX s t.b.toNat:Int),t.same⟩)++fs.drop i
theorem akZ:(pM s fs i)[i]?=fs[i]?:=by
 by_cases h:i <fs.length
 ·rw[pM,List.getElem?_append_right (by rw[List.length_map,List.length_take];omega),List.length_map,List.length_take,List.getElem?_drop]
  congr 1;omega
 rw[List.getElem?_eq_none (by simp[pM];omega),List.getElem?_eq_none (by omega)]
theorem Zy{t:cU}(h:fs[i]?=some t):(pM s fs i).set i ⟨t.a,(sX s t.b.toNat:Int),t.same⟩=pM s fs (i+1):=by
 have hi:=(List.getElem?_eq_some_iff.1 h).1
 rw[pM,List.set_append_right _ _ (by rw[List.length_map,List.length_take];omega),List.length_map,List.length_take,show i-min i fs.length=0 by omega,pM,eX h,fF h,List.set_cons_zero,List.map_append,List.append_assoc]
 rfl
theorem adl:(pM s fs i).length=fs.length:=by
 simp only[pM,List.length_append,List.length_map,List.length_take,List.length_drop];omega
theorem adm(h:fs.length≤i):pM s fs i=fs.map fun t=>⟨t.a,(sX s t.b.toNat:Int),t.same⟩:=by
 rw[pM,List.take_of_length_le h,List.drop_eq_nil_of_le h,List.append_nil]
theorem aOn{A:List ay}(hs:s.Perm (cD K.after.length))(hA:abx s K A K.after.length)(hF:F=pM s K.facts K.facts.length)(hk:∀t∈K.facts,0≤t.b∧t.b <K.after.length):q7 (sX s) K A F where
 len:=hA.1
 rng:=fun b hb=>(Gp hs hb).2
 inj:=fun b c hb hc=>WR hs hb hc
 c8:=fun b hb=>hA.2 b hb
 fac:=by rw[hF,adm (Nat.le_refl _)]
 fok:=hk
theorem q7.all{A:List ay}(h:q7 f K A F)(hs:∀o,o <K.after.length→∃b,b <K.after.length∧f b=o){p:ay}(hp:p∈A):p∈K.after:=by
 obtain⟨o,ho⟩:=List.getElem?_of_mem hp
 have hl:=(List.getElem?_eq_some_iff.1 ho).1
 rw[h.len] at hl
 obtain⟨b,hb,rfl⟩:=hs o hl
 rw[h.c8 b hb] at ho
 exact List.mem_of_getElem? ho
theorem q7.facts{A:List ay}(h:q7 f K A F)(hk:∀x∈K.facts,(0≤x.a∧x.a <K.before.length)∧(0≤x.b∧x.b <K.after.length)):∀x∈F,(0≤x.a∧x.a <K.before.length)∧(0≤x.b∧x.b <A.length):=fun x hx=>by
 rw[h.fac] at hx
 obtain⟨u,hu,rfl⟩:=List.mem_map.1 hx
 have h1:=hk u hu
 have h2:=h.rng u.b.toNat (by omega)
 rw[h.len]
 exact⟨h1.1,by dsimp only;omega⟩
theorem kV.ren{A:List ay}(hC:kV K)(h:q7 f K A F)(hs:∀o,o <K.after.length→∃b,b <K.after.length∧f b=o):kV (iS K A F):=
 ⟨hC.pN,hC.ways,hC.dr,hC.rules,hC.before,⟨by show A.length≤4;rw[h.len];exact hC.after.1,fun p hp=>hC.after.2 p (h.all hs hp)⟩,hC.v9,
  ⟨by show F.length≤4;rw[h.fac,List.length_map];exact hC.facts.1,h.facts hC.facts.2⟩,by
  show F.Pairwise _
  rw[h.fac,List.pairwise_map]
  refine hC.apart.imp_of_mem fun {x y} hx hy hn e=>hn ⟨e.1,?_⟩
  have h1:=h.fok x hx;have h2:=h.fok y hy
  have:=h.inj x.b.toNat y.b.toNat (by omega) (by omega) (by have:=e.2;dsimp only at this;omega)
  omega⟩
theorem fe.ren{A:List ay}(hV:fe K)(h:q7 f K A F)(hs:∀o,o <K.after.length→∃b,b <K.after.length∧f b=o):fe (iS K A F):=
 ⟨hV.rules,hV.before,⟨by show A.length≤4;rw[h.len];exact hV.after.1,fun p hp=>hV.after.2 p (h.all hs hp)⟩,hV.dr,⟨by show F.length≤4;rw[h.fac,List.length_map];exact hV.facts.1,h.facts hV.facts.2⟩⟩
theorem Zw:pM s fs 0=fs:=by simp[pM]
theorem Zx{t u:cU}(h:fs[i]?=some t) (hu:(pM s fs i)[i]?=some u) (ho:s[t.b.toNat]?=some o) (h0:0≤o):(pM s fs i).set i ⟨u.a,o,u.same⟩=pM s fs (i+1):=by
 rw[akZ,h] at hu
 cases hu
 rw[←Zy h,adY ho,Int.toNat_of_nonneg h0]
theorem adj{a b':Nat}{zs ys:List ai}{v w e g:Int}(hl:cY K'=cY K)(hc:(Bn K').c a b'=(Bn K).c a b)
 (hz:zs.Perm (cR K (aV K) (cy K.gone K.new K.af) (dN K)))(hy:ys.Perm (cR K' (aV K') (cy K'.gone K'.new K'.af) (dN K')))
 (h1:(zs=[]∧e=9∧v=0)∨(zs≠[]∧e=0∧v=px ((aw zs).c a b) ((zs.length:Nat):Int)))(h2:(ys=[]∧g=9∧w=0)∨(ys≠[]∧g=0∧w=px ((aw ys).c a b') ((ys.length:Nat):Int))):w=v∧g=e∧(e=0∨e=9):=by
 have l1:zs.length=cY K:=hz.length_eq
 have l2:ys.length=cY K':=hy.length_eq
 rcases h1 with ⟨n1,rfl,rfl⟩| ⟨n1,rfl,rfl⟩<;>rcases h2 with ⟨n2,rfl,rfl⟩| ⟨n2,rfl,rfl⟩
 ·exact⟨rfl,rfl,.inr rfl⟩
 ·rw[n1,List.length_nil] at l1
  exact absurd (List.eq_nil_of_length_eq_zero (by omega)) n2
 ·rw[n2,List.length_nil] at l2
  exact absurd (List.eq_nil_of_length_eq_zero (by omega)) n1
 refine⟨?_,rfl,.inl rfl⟩
 rw[Bc hz,Bc hy,l1,l2,hl]
 show px ((Bn K').c a b') _=px ((Bn K).c a b) _
 rw[hc]
set_option maxHeartbeats 2000000 in
theorem afd {ro:Nat→Option Obj} (hK:fP ro l K) (hO:kV K):eG zT 14 [.agg ⟨l⟩] ro [] (fun r Y=>∃(v0 v1 v3 v4 v5 v6 v7 vb:Value) (fa:Option Addr) (fc:Nat) (LF LA Z:Cells),r= .agg ⟨[v0,v1,.slice fa 0 fc,v3,v4,v5,v6,v7,zI K.gone,zI K.new,zI K.af,vb]⟩∧(∀v∈[v0,v1,v3,v4,v5,v6,v7,vb],single v=true)∧az v7 5 44 dL K.after LA∧az vb 3 54 pX K.facts LF∧(∀aG,Sub ro aG→Knows aG Z→∀(va:Value) (bs:List ay) (vf:Value) (fs:List cU),bE aG va 5 dL bs→bE aG vf 3 pX fs→fP aG [v0,v1,.slice fa 0 fc,v3,v4,v5,v6,va,zI K.gone,zI K.new,zI K.af,vf] (iS K bs fs))∧Y=LF++(LA++Z)):=by
 obtain⟨vS,vT,vc,vh,vr,vb,va,vf,fa,fc,hv,rfl,hS,hT,p9,nC,hr,hb,ha,hf⟩:=hK
 obtain⟨iC,hs,fC⟩:=id hS
 obtain⟨iX,ht,fw⟩:=id hT
 obtain⟨hc,hh,DR⟩:=id p9
 obtain⟨mD,Tx,Tv,lD,rfl,Tw,Mz,My⟩:=hs
 obtain⟨fg,Av,As,eo,rfl,Au,su,sr⟩:=ht
 obtain⟨eI,Ax,Aw,eB,rfl,Dy,yJ,yI⟩:=hc
 obtain⟨dO,u3,u2,dv,rfl,xg,qV,qU⟩:=hh
 obtain⟨k8,Is,Ir,k7,rfl,Ol,F8,F7⟩:=hr
 obtain⟨lg,ME,MC,k9,rfl,MD,Kc,Kb⟩:=hb
 obtain⟨kD,I5,I0,j7,rfl,I1,Gb,Ga⟩:=ha
 obtain⟨iT,xY,xX,gN,rfl,Dx,sU,sS⟩:=hf
 have Cw:=hO.rules
 have qS:=hO.before.1
 have Oy:=hO.after.1
 have Ox:=hO.facts.1
 have Ow:=hO.ways.1
 have Iz:=fC.len
 have EE:=fw.len
 have XO:=hO.pN.two
 have hl9:=hO.dr.nh
 have Ok:∀(i:Nat) (p:da),([]:List da)[i]?=some p→cB ⟨ro,[]⟩ 0 (0+i*6) 6 (m8 p):=fun _ _ h=>oG h
 refine bD au [] [] ba<|zD 2<|jn fun b1=>jn fun b2=>zD 3<|jn fun b6=>jd 3 [2]<|jq (sz:=6) (ps:=[]) (qs:=([]:List da)) (enc:=m8) (w:= .slice fa 0 fc) [0] [] [] (bA (b:=b6) (T:=179)) (fun s he _=>⟨fa,0,0,fc,rfl,(fun _ h=>absurd h (Nat.not_lt_zero _)),fun i p hp=>(Ok i p hp).ext he⟩) (fun p _=>aj rfl) (by simp<;>omega) (fun v10 VQ G7=>?_)
 rw[List.nil_append] at G7
 obtain⟨yz,yx,avq⟩:=G7.form
 subst avq
 refine zD 1<|jn fun b3=>jd 8 [0]<|oH<|oH<|dW [1,1,0,1,0,0] [] (fun(zz:Nat×Value×Cells×(List Value)×Cells)=>[(1,zP b1),(2,zP b2),(3,zP b3),(4,zI (zz.1:Int))]) (fun(zz:Nat×Value×Cells×(List Value)×Cells)=>[.b b3 (.cells ⟨[zz.2.1,zS,(.slice yz (([]:List da)).length yx)]⟩ 31 (0,0)),.l zz.2.2.1,.l zz.2.2.2.2,.l VQ,.b b2 (.cells ⟨zO⟩ 40 (0,0)),.b b1 (.cells ⟨[.slice mD iC.length lD,.slice fg iX.length eo,.slice fa 0 fc,.slice eI K.cs.length eB,.slice dO hv.length dv,.slice k8 K.rules.length k7,.slice lg K.before.length k9,.slice kD K.after.length j7,zI K.gone,zI K.new,zI K.af,.slice iT K.facts.length gN]⟩ 40 (0,0))]) (fun(zz:Nat×Value×Cells×(List Value)×Cells)=>(zz.1≤iC.length∧zz.2.2.2.1.length=zz.1)∧az zz.2.1 1 74 gh zz.2.2.2.1 zz.2.2.1∧∀aG,Knows aG zz.2.2.2.2→dg (fun w l=>bE aG w 2 cI l) zz.2.2.2.1 (K.str.take zz.1)) (fun(zz:Nat×Value×Cells×(List Value)×Cells)=>iC.length-zz.1) (⟨0,zS,[],[],[]⟩) ⟨⟨by omega,rfl⟩,az.nil _ _ _,fun _ _=> .nil⟩ [2,1,0,3,4,5] ?_
 rintro⟨i,v0,L0,ps,Z⟩ hI K1 bK rest
 dsimp only at hI
 refine jd 11 [5]<|zJ 18 ((i:Int) <(iC.length:Int)) (fun h1=>?_) fun h1=>?_
 ·
  refine jd 13 [0,5] ?_
  obtain⟨ox,ju⟩:=zG iC i
  refine iA lD 1 Mz ju ?_
  obtain⟨Qn,ago,h31⟩:=fC.get ju
  obtain aR0:=hO.pN.len _ (List.mem_of_getElem? ago)
  obtain⟨adF,ass,asp,adE,rfl,aOK,asr,asq⟩:=h31
  refine jl 0 (My _ _ ju)<|aL 3 fun Ac Aj zd=>jn fun mz=>bB zd [1,2,3,4,5,6]<|aL 11 fun sB sJ q5=>jq (sz:=2) (ps:=[]) (qs:=Qn) (enc:=cI) (w:= .slice adF Qn.length adE) [0] [] [] (bA (b:=mz) (T:=73)) (fun s he _=>⟨adF,ass,asp,adE,rfl,asr,fun i p hp=>(asq i p hp).ext he⟩) (fun p _=>aj rfl) (by simp<;>omega) (fun v32 L32 y5=>?_)
  rw[List.nil_append] at y5
  obtain⟨yy,yw,UD⟩:=y5.form
  subst UD
  refine iu q5 [[6],[1]]<|aL 12 fun sA sI qZ=>jn fun b33=>bB qZ [1,2,3,4,5,6,7]<|aL 13 fun BG BM CC=>jq (sz:=1) (ps:=ps) (qs:=[((.slice yy (Qn).length yw):Value)]) (enc:=gh) (w:= .slice (some ⟨b33,0,none⟩) 1 1) [3] [0] [(b33,.cells ⟨([((.slice yy (Qn).length yw):Value)].map gh).flatten⟩ 74 (0,0))] (hI.2.1) (fun s _ hZ=>bX [((.slice yy (Qn).length yw):Value)] (hZ _ (.head _)) (by intro p hp;rfl)) (by intro p hp;rw[List.mem_singleton] at hp;subst hp;exact aj rfl) (by simp<;>omega) (fun v34 L34 G4=>?_)
  obtain⟨SX,SR,UC⟩:=G4.form
  subst UC
  refine iu CC [[7]]<|zD 2<|aL 16 fun abW acF hL6=>jd 1 [3]<|iu hL6 []<|zD 3<|ja ((i:Int)+1) (by omega)<|zD 2<|KR bK (⟨i+1,(.slice SX ((ps++[((.slice yy (Qn).length yw):Value)])).length SR),L34,(ps++[((.slice yy (Qn).length yw):Value)]),L32++Z⟩) ⟨⟨by dsimp only;omega,by simp only[List.length_append,List.length_cons,List.length_nil];omega⟩,G4,fun aG hk=>qe (hI.2.2 aG hk.right) ago (y5.kZ hk.left)⟩ (by omega) [[3],[0],[2,4],[5],[6],[7]] (Sub.refl _)
 refine zD 8<|oH<|oH<|dW [1,1,1,0,1,0,0] [] (fun(zz:Nat×Value×Cells×(List Value)×Cells)=>[(1,zP b1),(2,zP b2),(3,zP b3),(5,zI (zz.1:Int))]) (fun(zz:Nat×Value×Cells×(List Value)×Cells)=>[.b b3 (.cells ⟨[v0,zz.2.1,(.slice yz (([]:List da)).length yx)]⟩ 31 (0,0)),.l zz.2.2.1,.l zz.2.2.2.2,.l L0,.l Z,.l VQ,.b b2 (.cells ⟨zO⟩ 40 (0,0)),.b b1 (.cells ⟨[.slice mD iC.length lD,.slice fg iX.length eo,.slice fa 0 fc,.slice eI K.cs.length eB,.slice dO hv.length dv,.slice k8 K.rules.length k7,.slice lg K.before.length k9,.slice kD K.after.length j7,zI K.gone,zI K.new,zI K.af,.slice iT K.facts.length gN]⟩ 40 (0,0))]) (fun(zz:Nat×Value×Cells×(List Value)×Cells)=>(zz.1≤iX.length∧zz.2.2.2.1.length=zz.1)∧az zz.2.1 1 81 gh zz.2.2.2.1 zz.2.2.1∧∀aG,Knows aG zz.2.2.2.2→dg (fun w l=>bE aG w 7 kT l) zz.2.2.2.1 (K.ways.take zz.1)) (fun(zz:Nat×Value×Cells×(List Value)×Cells)=>iX.length-zz.1) (⟨0,zS,[],[],[]⟩) ⟨⟨by omega,rfl⟩,az.nil _ _ _,fun _ _=> .nil⟩ [2,1,0,3,4,5,6,7] ?_
 rintro⟨j,v1,L1,qs,Z1⟩ hG K7 hK7 rest
 dsimp only at hG
 refine jd 10 [7]<|zJ 42 ((j:Int) <(iX.length:Int)) (fun h7=>?_) fun h7=>?_
 ·
  refine jd 11 [0,7] ?_
  obtain⟨x52,wm⟩:=zG iX j
  refine iA eo 1 su wm<|zD 1 ?_
  obtain⟨TZ,agn,h54⟩:=fw.get wm
  obtain aRW:=(hO.ways.2 _ (List.mem_of_getElem? agn)).1.2
  obtain⟨adD,aso,asl,adC,rfl,aOz,asn,asm⟩:=h54
  refine jl 0 (sr _ _ wm)<|aL 2 fun YV Zd hL8=>jn fun b47=>bB hL8 [1,2,3,4,5,6,7,8]<|aL 10 fun YU Zc UQ=>jq (sz:=7) (ps:=[]) (qs:=TZ) (enc:=kT) (w:= .slice adD TZ.length adC) [0] [] [] (bA (b:=b47) (T:=77)) (fun s he _=>⟨adD,aso,asl,adC,rfl,asn,fun i p hp=>(asm i p hp).ext he⟩) (fun p _=>aj rfl) (by simp<;>omega) (fun v55 L55 y4=>?_)
  rw[List.nil_append] at y4
  obtain⟨FD,FB,avh⟩:=y4.form
  subst avh
  refine iu UQ [[8],[1]]<|zD 1<|aL 12 fun Ft FL wy=>jn fun b57=>bB wy [1,2,3,4,5,6,7,8,9]<|aL 13 fun JF JL CG=>jq (sz:=1) (ps:=qs) (qs:=[((.slice FD (TZ).length FB):Value)]) (enc:=gh) (w:= .slice (some ⟨b57,0,none⟩) 1 1) [3] [0] [(b57,.cells ⟨([((.slice FD (TZ).length FB):Value)].map gh).flatten⟩ 81 (0,0))] (hG.2.1) (fun s _ hZ=>bX [((.slice FD (TZ).length FB):Value)] (hZ _ (.head _)) (by intro p hp;rfl)) (by intro p hp;rw[List.mem_singleton] at hp;subst hp;exact aj rfl) (by simp<;>omega) (fun v58 L58 G1=>?_)
  obtain⟨SW,SQ,He⟩:=G1.form
  subst He
  refine iu CG [[9]]<|zD 1<|aL 15 fun OH O3 CE=>jd 1 [3]<|dZ CE<|zD 3<|ja ((j:Int)+1) (by omega)<|zD 2<|KR hK7 (⟨j+1,(.slice SW ((qs++[((.slice FD (TZ).length FB):Value)])).length SQ),L58,(qs++[((.slice FD (TZ).length FB):Value)]),L55++Z1⟩) ⟨⟨by dsimp only;omega,by simp only[List.length_append,List.length_cons,List.length_nil];omega⟩,G1,fun aG hk=>qe (hG.2.2 aG hk.right) agn (y4.kZ hk.left)⟩ (by omega) [[3],[0],[2,4],[5],[6],[7],[8],[9]] (Sub.refl _)
 refine zD 3<|Iu [1,1,1,1,1] [] (fun(zz:(Option Addr)×Nat×(Option Addr)×Nat×(List bw)×Cells×Value×Cells)=>[(1,zP b1),(2,zP b2)]) (fun(zz:(Option Addr)×Nat×(Option Addr)×Nat×(List bw)×Cells×Value×Cells)=>[.b b1 (.cells ⟨[v0,v1,(.slice yz (([]:List da)).length yx),(.slice zz.1 K.cs.length zz.2.1),(.slice zz.2.2.1 zz.2.2.2.2.1.length zz.2.2.2.1),zz.2.2.2.2.2.2.1,.slice lg K.before.length k9,.slice kD K.after.length j7,zI K.gone,zI K.new,zI K.af,.slice iT K.facts.length gN]⟩ 40 (0,0)),.l zz.2.2.2.2.2.2.2,.l zz.2.2.2.2.2.1,.b b3 (.cells ⟨[v0,v1,(.slice yz (([]:List da)).length yx)]⟩ 31 (0,0)),.l L1,.l Z1,.l L0,.l Z,.l VQ,.b b2 (.cells ⟨zO⟩ 40 (0,0))]) (fun(zz:(Option Addr)×Nat×(Option Addr)×Nat×(List bw)×Cells×Value×Cells)=>dg dq zz.2.2.2.2.1 K.hd∧(∀aG,Sub ro aG→Knows aG zz.2.2.2.2.2.1→jC aG (.slice zz.1 K.cs.length zz.2.1) (.slice zz.2.2.1 zz.2.2.2.2.1.length zz.2.2.2.1) K.cs zz.2.2.2.2.1 K.hd)∧az zz.2.2.2.2.2.2.1 2 84 iP K.rules zz.2.2.2.2.2.2.2) ?_ (fun K13 Nw=>?_)
 ·
  rintro⟨ta,tc,ua,uc,hw,ZT,vR,LR⟩ hJ rest
  dsimp only at hJ
  refine zD 1<|Iu [1,1,1,1,1,1] [] (fun(zz:Value×Cells×Value×Cells×Value×Cells)=>[(1,zP b1),(2,zP b2)]) (fun(zz:Value×Cells×Value×Cells×Value×Cells)=>[.b b1 (.cells ⟨[v0,v1,(.slice yz (([]:List da)).length yx),(.slice ta K.cs.length tc),(.slice ua hw.length uc),vR,zz.1,zz.2.2.1,zI K.gone,zI K.new,zI K.af,zz.2.2.2.2.1]⟩ 40 (0,0)),.l zz.2.1,.l zz.2.2.2.1,.l zz.2.2.2.2.2,.l LR,.l ZT,.b b3 (.cells ⟨[v0,v1,(.slice yz (([]:List da)).length yx)]⟩ 31 (0,0)),.l L1,.l Z1,.l L0,.l Z,.l VQ,.b b2 (.cells ⟨zO⟩ 40 (0,0))]) (fun(zz:Value×Cells×Value×Cells×Value×Cells)=>az zz.1 5 44 dL K.before zz.2.1∧az zz.2.2.1 5 44 dL K.after zz.2.2.2.1∧az zz.2.2.2.2.1 3 54 pX K.facts zz.2.2.2.2.2) ?_ (fun K14 Jt=>?_)
  ·
   rintro⟨vB,LB,vA,LA,vF,LF⟩ hM rest
   dsimp only at hM
   refine jd 3 [0] ?_
   obtain⟨arn,arb,avp⟩:=hI.2.1.form
   subst avp
   obtain⟨FE,Ee,u7⟩:=hG.2.1.form
   subst u7
   obtain⟨arl,ara,No⟩:=hJ.2.2.form
   subst No
   obtain⟨ark,aq9,agH⟩:=hM.1.form
   subst agH
   obtain⟨xL,xK,Jp⟩:=hM.2.1.form
   subst Jp
   obtain⟨acv,Y1,Nn⟩:=hM.2.2.form
   subst Nn
   refine jd 3 [12]<|aF q0 (.agg ⟨[(.slice arn (ps).length arb),(.slice FE (qs).length Ee),(.slice yz (([]:List da)).length yx),(.slice ta K.cs.length tc),(.slice ua hw.length uc),(.slice arl (K.rules).length ara),(.slice ark (K.before).length aq9),(.slice xL (K.after).length xK),zI K.gone,zI K.new,zI K.af,(.slice acv (K.facts).length Y1)]⟩) [12] [3,2,1,4,5,7,8,9,10,11] (LF++(LA++(LB++(LR++(ZT++(L1++(Z1++(L0++(Z++VQ))))))))) (Sub.refl _) ⟨_,_,rfl,rfl,_,_,_,_,_,_,_,_,_,_,_,_,_,rfl,An (fo hI.2.1) (fo hG.2.1) rfl rfl (fo hJ.2.2) (fo hM.1) (fo hM.2.1) (fo hM.2.2),hM.2.1,hM.2.2,fun aG oU hk va bs vf fs hva hvf=>⟨_,_,_,_,_,_,_,_,_,_,hw,rfl,⟨_,hI.2.1.kZ hk.right.right.right.right.right.left,by have:=hI.2.2 aG hk.right.right.right.right.right.right.left;rwa[List.take_of_length_le (by omega)] at this⟩,⟨_,hG.2.1.kZ hk.right.right.right.left,by have:=hG.2.2 aG hk.right.right.right.right.left;rwa[List.take_of_length_le (by omega)] at this⟩,hJ.2.1 aG oU hk.right.right.left,hJ.1,hJ.2.2.kZ hk.right.left,hM.1.kZ hk.left,hva,hvf⟩,rfl⟩
  refine jd 7 [0,0,0]<|nj [2,6] ⟨fun z15 t16 Ho=>?_,fun z18 t19 Nu=>?_,trivial⟩
  ·
   refine jc (vs:=[.slice lg K.before.length k9]) [] (ir (show bE _ _ _ _ _ from ⟨lg,ME,MC,k9,rfl,MD,Kc,Kb⟩) (by omega)) ?_
   rintro v73 L73 ⟨_,y7,rfl⟩
   refine bB Ho [1,2,3,4,5,6,7,8,9,10]<|zD 1<|nj [5,6] ⟨fun z21 t22 UY=>?_,fun z24 t25 Js=>?_,trivial⟩
   ·
    refine jc (vs:=[.slice kD K.after.length j7]) [] (ir (show bE _ _ _ _ _ from ⟨kD,I5,I0,j7,rfl,I1,Gb,Ga⟩) (by omega)) ?_
    rintro v76 L76 ⟨_,wu,rfl⟩
    refine bB UY [1,2,3,4,5,6,7,8,9,10,11]<|aL 6 fun VY V9 Nt=>jn fun b77=>bB Nt [1,2,3,4,5,6,7,8,9,10,11,12]<|aL 9 fun VX V8 Hn=>jq (sz:=3) (ps:=[]) (qs:=K.facts) (enc:=pX) (w:= .slice iT K.facts.length gN) [0] [] [] (bA (b:=b77) (T:=54)) (fun s he _=>⟨iT,xY,xX,gN,rfl,sU,fun i p hp=>(sS i p hp).ext he⟩) (fun p _=>aj rfl) (by simp<;>omega) (fun v80 L80 gA=>?_)
    rw[List.nil_append] at gA
    obtain⟨FC,FA,Hd⟩:=gA.form
    subst Hd
    refine iu Hn []<|aL 11 (fun OG O2 Hm=>?_)
    obtain⟨acu,acm,UE⟩:=y7.form
    subst UE
    refine jd 1 [3]<|dZ Hm<|zD 1<|aL 13 (fun VW V7 Ns=>?_)
    obtain⟨ari,aq7,avm⟩:=wu.form
    subst avm
    refine jd 1 [3]<|dZ Ns<|zD 1<|aL 15 fun ab0 acJ Ra=>jd 1 [3]<|dZ Ra<|zD 1<|bJ Jt ⟨(.slice acu (K.before).length acm),L73,(.slice ari (K.after).length aq7),L76,(.slice FC (K.facts).length FA),L80⟩ ⟨y7,wu,gA⟩ Nat.zero_lt_one [3,2,1,0,4,5,6,7,8,9,10,11,12] (Sub.refl _)
   refine jn fun b77=>bB Js [1,2,3,4,5,6,7,8,9,10,11]<|aL 5 fun aos aoO ahc=>jc (vs:=[.slice kD K.after.length j7]) [] (ir (show bE _ _ _ _ _ from ⟨kD,I5,I0,j7,rfl,I1,Gb,Ga⟩) (by omega)) ?_
   rintro v76 L76 ⟨_,wu,rfl⟩
   refine bB ahc [1,2,3,4,5,6,7,8,9,10,11,12]<|aL 9 fun ayu azs ahb=>jq (sz:=3) (ps:=[]) (qs:=K.facts) (enc:=pX) (w:= .slice iT K.facts.length gN) [1] [] [] (bA (b:=b77) (T:=54)) (fun s he _=>⟨iT,xY,xX,gN,rfl,sU,fun i p hp=>(sS i p hp).ext he⟩) (fun p _=>aj rfl) (by simp<;>omega) (fun v80 L80 gA=>?_)
   rw[List.nil_append] at gA
   obtain⟨FC,FA,Hd⟩:=gA.form
   subst Hd
   refine iu ahb []<|aL 11 (fun ayt azr av1=>?_)
   obtain⟨yy,yw,UD⟩:=y7.form
   subst UD
   refine jd 1 [3]<|dZ av1<|zD 1<|aL 13 (fun ays azq av0=>?_)
   obtain⟨SX,SR,UC⟩:=wu.form
   subst UC
   refine jd 1 [3]<|dZ av0<|zD 1<|aL 15 fun aor aoN Nr=>jd 1 [3]<|dZ Nr<|zD 1<|bJ Jt ⟨(.slice yy (K.before).length yw),L73,(.slice SX (K.after).length SR),L76,(.slice FC (K.facts).length FA),L80⟩ ⟨y7,wu,gA⟩ Nat.zero_lt_one [3,2,1,0,4,5,6,7,8,9,10,11,12] (Sub.refl _)
  refine jn fun b77=>bB Nu [1,2,3,4,5,6,7,8,9,10]<|aL 2 fun abZ acI UW=>jc (vs:=[.slice lg K.before.length k9]) [] (ir (show bE _ _ _ _ _ from ⟨lg,ME,MC,k9,rfl,MD,Kc,Kb⟩) (by omega)) ?_
  rintro v73 L73 ⟨_,y7,rfl⟩
  refine bB UW [1,2,3,4,5,6,7,8,9,10,11]<|zD 1<|aL 5 fun aoq aoM aha=>jc (vs:=[.slice kD K.after.length j7]) [] (ir (show bE _ _ _ _ _ from ⟨kD,I5,I0,j7,rfl,I1,Gb,Ga⟩) (by omega)) ?_
  rintro v76 L76 ⟨_,wu,rfl⟩
  refine bB aha [1,2,3,4,5,6,7,8,9,10,11,12]<|aL 9 fun aop aoL ag9=>jq (sz:=3) (ps:=[]) (qs:=K.facts) (enc:=pX) (w:= .slice iT K.facts.length gN) [2] [] [] (bA (b:=b77) (T:=54)) (fun s he _=>⟨iT,xY,xX,gN,rfl,sU,fun i p hp=>(sS i p hp).ext he⟩) (fun p _=>aj rfl) (by simp<;>omega) (fun v80 L80 gA=>?_)
  rw[List.nil_append] at gA
  obtain⟨FC,FA,Hd⟩:=gA.form
  subst Hd
  refine iu ag9 []<|aL 11 (fun aoo aoK ag8=>?_)
  obtain⟨acr,acj,agE⟩:=y7.form
  subst agE
  refine jd 1 [3]<|dZ ag8<|zD 1<|aL 13 (fun ayr azp ag7=>?_)
  obtain⟨arf,aq5,avk⟩:=wu.form
  subst avk
  refine jd 1 [3]<|dZ ag7<|zD 1<|aL 15 fun ayq azo avZ=>jd 1 [3]<|dZ avZ<|zD 1<|bJ Jt ⟨(.slice acr (K.before).length acj),L73,(.slice arf (K.after).length aq5),L76,(.slice FC (K.facts).length FA),L80⟩ ⟨y7,wu,gA⟩ Nat.zero_lt_one [3,2,1,0,4,5,6,7,8,9,10,11,12] (Sub.refl _)
 refine jd 7 [0,7,7]<|nj [3,4] ⟨fun z43 t44 anf=>?_,fun z46 t47 avY=>?_,trivial⟩
 ·
  refine jc [] (uf hO.dr p9 nC) ?_
  rintro _ VG ⟨Ui,awO,avM,awM,avB,_,rfl,GW,GV,rfl⟩
  refine bB anf [1,2,3,4,5,6,7,8]<|aL 4 fun ayp azn ag6=>jn fun b64=>bB ag6 [1,2,3,4,5,6,7,8,9]<|aL 7 fun ayo azm ag5=>jq (sz:=2) (ps:=[]) (qs:=K.rules) (enc:=iP) (w:= .slice k8 K.rules.length k7) [0] [] [] (bA (b:=b64) (T:=84)) (fun s he _=>⟨k8,Is,Ir,k7,rfl,F8,fun i p hp=>(F7 i p hp).ext he⟩) (fun p _=>aj rfl) (by simp<;>omega) (fun v67 L67 lX=>?_)
  rw[List.nil_append] at lX
  obtain⟨SV,SP,UA⟩:=lX.form
  subst UA
  refine iu ag5 [[2]]<|aL 9 (fun aon aoJ ag4=>?_)
  obtain⟨Mb,LZ,Hf⟩:=hI.2.1.form
  subst Hf
  obtain⟨aMp,aL4,avi⟩:=hG.2.1.form
  subst avi
  refine jd 1 [9]<|dZ ag4<|zD 1<|aL 11 fun aom aoI UU=>jd 1 [9]<|dZ UU<|zD 1<|aL 13 fun abY acH UT=>jd 1 [9]<|dZ UT<|zD 1<|bJ Nw ⟨_,_,_,_,Ui,VG,(.slice SV (K.rules).length SP),L67⟩ ⟨GW,GV,lX⟩ Nat.zero_lt_one [9,0,1,2,3,4,5,6,7,8] (Sub.refl _)
 refine jn fun b64=>bB avY [1,2,3,4,5,6,7,8]<|aL 3 fun abX acG US=>jc [] (uf hO.dr p9 nC) ?_
 rintro _ VG ⟨Ui,awO,avM,awM,avB,_,rfl,GW,GV,rfl⟩
 refine bB US [1,2,3,4,5,6,7,8,9]<|aL 7 fun aol aoH ag3=>jq (sz:=2) (ps:=[]) (qs:=K.rules) (enc:=iP) (w:= .slice k8 K.rules.length k7) [1] [] [] (bA (b:=b64) (T:=84)) (fun s he _=>⟨k8,Is,Ir,k7,rfl,F8,fun i p hp=>(F7 i p hp).ext he⟩) (fun p _=>aj rfl) (by simp<;>omega) (fun v67 L67 lX=>?_)
 rw[List.nil_append] at lX
 obtain⟨SV,SP,UA⟩:=lX.form
 subst UA
 refine iu ag3 [[2]]<|aL 9 (fun aok aoG ag1=>?_)
 obtain⟨akE,akC,agD⟩:=hI.2.1.form
 subst agD
 obtain⟨SW,SQ,He⟩:=hG.2.1.form
 subst He
 refine jd 1 [9]<|dZ ag1<|zD 1<|aL 11 fun aoj aoF UR=>jd 1 [9]<|dZ UR<|zD 1<|aL 13 fun ayn azl avX=>jd 1 [9]<|dZ avX<|zD 1<|bJ Nw ⟨_,_,_,_,Ui,VG,(.slice SV (K.rules).length SP),L67⟩ ⟨GW,GV,lX⟩ Nat.zero_lt_one [9,0,1,2,3,4,5,6,7,8] (Sub.refl _)
theorem Qm{ro:Nat→Option Obj}(hN:Dn ro vd xs):aqJ zT 4 [vd] ro (fun r Y=>r= .bool true∧Y=[]):=by
 have hN0:=hN
 obtain⟨hl,hxn⟩:=hN
 obtain⟨fI,rV,rS,eZ,rfl,tR,lQ,mO⟩:=hl
 refine aBR au (by kernel_rfl) [] ba fun fr=>zD 7<|jc (vs:=[.slice fI xs.length eZ]) [] (aVA hN0.1) ?_
 rintro _ X16 ⟨d16,rfl,ahm⟩
 refine zD 5<|jcG (vs:=[zP d16,zI 3,zI 2]) [0] (aVB hN0 ahm (by decide) (by decide)) ?_
 rintro _ aC X18 bY ⟨K,l,rfl,hO,uQ,hK,Ny⟩
 obtain⟨v0,v1,v3,v4,v5,v6,v7,vb,va,vc,hv,rfl,_,_,_,_,_,hb,ha,hf⟩:=id hK
 obtain⟨lg,ME,MC,k9,rfl,MD,Kc,Kb⟩:=hb
 obtain⟨kD,I5,I0,j7,rfl,I1,Gb,Ga⟩:=ha
 obtain⟨iT,xY,xX,gN,rfl,Dx,sU,sS⟩:=hf
 have hC:=hO.c
 have hV:=hO.v
 have auJ:=hO.v9
 have Fh:=hV.before.1
 have Lc:=hV.after.1
 refine jn fun b4=>jsx 0 b4 0 zO [v0,v1,.slice va 0 vc,v3,v4,v5,.slice lg K.before.length k9,.slice kD K.after.length j7,zI K.gone,zI K.new,zI K.af,.slice iT K.facts.length gN] 40 hK.L.all rfl<|jd 7 [0]<|jc (vs:=[zP d16,zI (K.after.length:Int)]) [1] (Vn (hN0.up bY) Ny (by first|omega|decide)) ?_
 rintro v27 _ ⟨qW,L27,X27,Jk,Cq,rfl,aGA⟩
 refine jg 0 [.l L27,.l X27]<|jd 5 [2]<|jc (vs:=[.agg ⟨[v0,v1,.slice va 0 vc,v3,v4,v5,.slice lg K.before.length k9,.slice kD K.after.length j7,zI K.gone,zI K.new,zI K.af,.slice iT K.facts.length gN]⟩]) [] (afd hK hC) ?_
 rintro _ _ ⟨Dm,Dl,Dk,Dj,Di,Dh,azg,azf,Dg,Df,aw7,aIt,Z29,rfl,aQ7,aEe,aCQ,aSd,rfl⟩
 have aCn:=VS.all (K:=K) ⟨Dm,Dl,Dk,Dj,Di,Dh,azg,azf,Dg,Df,rfl,aQ7⟩
 refine jg 0 [.l aw7,.l aIt,.l Z29]<|jn (fun b6=>?_)
 obtain⟨va2,vc2,Ff⟩:=aEe.form
 subst Ff
 obtain⟨va3,vc3,XZ⟩:=aCQ.form
 subst XZ
 refine jsx 0 b6 0 zO [Dm,Dl,.slice Dg 0 Df,Dk,Dj,Di,Dh,(.slice va2 (K.after).length vc2),zI K.gone,zI K.new,zI K.af,(.slice va3 (K.facts).length vc3)] 40 aCn rfl<|zD 3 ?_
 have hol:qW.length=K.after.length:=by rw[Cq.length_eq,gz]
 refine zD 4<|dW [1,1,1,1,1,0,1,0,0] [] (fun(zz:Nat×Value×Cells×(List ay))=>[(2,.bool false),(4,zP b4),(5,v27),(6,zP b6),(7,zI (zz.1:Int))]) (fun(zz:Nat×Value×Cells×(List ay))=>[.b b6 (.cells ⟨[Dm,Dl,.slice Dg 0 Df,Dk,Dj,Di,Dh,zz.2.1,zI K.gone,zI K.new,zI K.af,(.slice va3 (K.facts).length vc3)]⟩ 40 (0,0)),.l zz.2.2.1,.l aw7,.l Z29,.l L27,.l X27,.b b4 (.cells ⟨[v0,v1,.slice va 0 vc,v3,v4,v5,.slice lg K.before.length k9,.slice kD K.after.length j7,zI K.gone,zI K.new,zI K.af,.slice iT K.facts.length gN]⟩ 40 (0,0)),.l fr]) (fun(zz:Nat×Value×Cells×(List ay))=>zz.1≤K.after.length∧abx qW K zz.2.2.2 zz.1∧az zz.2.1 5 44 dL zz.2.2.2 zz.2.2.1) (fun(zz:Nat×Value×Cells×(List ay))=>K.after.length-zz.1) (⟨0,_,aIt,K.after⟩) ⟨by dsimp only;omega,⟨rfl,fun _ h=>absurd h (Nat.not_lt_zero _)⟩,aEe⟩ [0,2,1,3,4,5,6,7] ?_
 rintro⟨i,vA,LA,A⟩ hA K1 bK rest
 dsimp only at hA
 have hAl:=hA.2.1.1
 refine zD 5<|Co Jk<|zD 2<|zJ 33 ((i:Int) <(qW.length:Int)) (fun h4=>?_) fun h4=>?_
 ·
  refine jd 9 [0] ?_
  obtain⟨x40,Nc⟩:=zG qW i
  refine T5 1 Jk Nc fun dz aTu=>nS 0 [4] L27 (fun s _ hZ=>cm Jk aTu hZ Nc)<|jd 3 [6] ?_
  obtain⟨pJ,xP⟩:=zG K.after i
  refine iA j7 5 Gb xP<|jl 0 (Ga _ _ xP) ?_
  obtain⟨x47,Je⟩:=zG A (x40.toNat) (by have:=ig (Cq.mem_iff.1 (List.mem_of_getElem? Nc));omega)
  refine pP x40 5 hA.2.2 Je (Int.toNat_of_nonneg (show 0≤x40∧x40 <((A).length:Int) from (by have:=ig (Cq.mem_iff.1 (List.mem_of_getElem? Nc));omega)).1).symm (fun b47 avI=>?_)
  refine aL 12 fun Ac Aj zd=>Oo 1 0 [.string pJ.name,zI pJ.st,zI pJ.no,zI pJ.head,.bool pJ.bold] (⟨pJ.name,pJ.st,pJ.no,pJ.head,pJ.bold⟩:ay) hA.2.2 avI Je rfl rfl (Nat.le_of_ble_eq_true rfl) fun L6 Ur=>dZ zd<|zD 3<|ja ((i:Int)+1) (by omega)<|zD 2<|bJ bK (⟨i+1,vA,L6,(A.set x40.toNat (⟨pJ.name,pJ.st,pJ.no,pJ.head,pJ.bold⟩:ay))⟩) ⟨by dsimp only;omega,abx.next Cq hA.2.1 Nc xP,Ur⟩ (by dsimp only;omega) [1,0,2,3,4,5,6,7] (Sub.refl _)
 refine zD 8<|dW [1,1,1,1,1,1,0,1,0,0] [] (fun(zz:Nat×Value×Cells)=>[(2,.bool false),(4,zP b4),(5,v27),(6,zP b6),(8,zI (zz.1:Int))]) (fun(zz:Nat×Value×Cells)=>[.b b6 (.cells ⟨[Dm,Dl,.slice Dg 0 Df,Dk,Dj,Di,Dh,vA,zI K.gone,zI K.new,zI K.af,zz.2.1]⟩ 40 (0,0)),.l zz.2.2,.l LA,.l Z29,.l L27,.l X27,.b b4 (.cells ⟨[v0,v1,.slice va 0 vc,v3,v4,v5,.slice lg K.before.length k9,.slice kD K.after.length j7,zI K.gone,zI K.new,zI K.af,.slice iT K.facts.length gN]⟩ 40 (0,0)),.l fr]) (fun(zz:Nat×Value×Cells)=>zz.1≤K.facts.length∧az zz.2.1 3 54 pX (pM qW K.facts zz.1) zz.2.2) (fun(zz:Nat×Value×Cells)=>K.facts.length-zz.1) (⟨0,_,aw7⟩) ⟨by dsimp only;omega,by rw[Zw];exact aCQ⟩ [0,2,1,3,4,5,6,7] ?_
 rintro⟨j,vF,LF⟩ hF K3 X7 rest
 dsimp only at hF
 have hFl:=adl (s:=qW) (fs:=K.facts) (i:=j)
 refine jd 6 [0]<|Co hF.2<|zD 2<|zJ 52 ((j:Int) <((pM qW K.facts j).length:Int)) (fun h8=>?_) fun h8=>?_
 ·
  refine jd 12 [0,6] ?_
  obtain⟨x62,Nb⟩:=zG K.facts j
  refine iA gN 3 sU Nb<|zD 1<|jl 1 (sS _ _ Nb) ?_
  obtain⟨JG,Jd⟩:=zG qW (x62.b.toNat) (by have:=hC.facts.2 _ (List.mem_of_getElem? Nb);omega)
  refine pP x62.b 1 Jk Jd (Int.toNat_of_nonneg (show 0≤x62.b∧x62.b <((qW).length:Int) from (by have:=hC.facts.2 _ (List.mem_of_getElem? Nb);omega)).1).symm (fun b65 aTn=>?_)
  refine nS 0 [4] L27 (fun s _ hZ=>cm Jk aTn hZ Jd) ?_
  obtain⟨x67,Qx⟩:=zG ((pM qW K.facts j)) j (by first|omega| (simp only[List.length_set,List.length_append,List.length_cons,List.length_nil];omega))
  refine T5 3 hF.2 Qx fun b67 aTm=>zD 1<|aL 14 fun sA sI qZ=>Oo 1 1 [zI JG] (⟨x67.a,JG,x67.same⟩:cU) hF.2 aTm Qx rfl rfl (Nat.le_of_ble_eq_true rfl) fun VQ agb=>iu qZ []<|zD 3<|ja ((j:Int)+1) (by omega)<|zD 2<|bJ X7 (⟨j+1,vF,VQ⟩) ⟨by dsimp only;omega,by have:=agb;rwa[Zx Nb Qx Jd (ig (Cq.mem_iff.1 (List.mem_of_getElem? Jd))).1] at this⟩ (by dsimp only;omega) [1,0,2,3,4,5,6,7] (Sub.refl _)
 refine jd 5 [6]<|Jb (vs:=[.agg ⟨[v0,v1,.slice va 0 vc,v3,v4,v5,.slice lg K.before.length k9,.slice kD K.after.length j7,zI K.gone,zI K.new,zI K.af,.slice iT K.facts.length gN]⟩]) [] (fun _ _ h=>h) (GL (K:=K) hK hC hV) ?_
 rintro _ _ ⟨rfl,rfl⟩
 refine jg 0 []<|zD 5<|jf [1,2,3] (LF++(LA++Z29)) (fun bcC Nj au4=>?_)
 have aUt:=aSd _ Nj (Knows.right (Knows.right au4)) _ _ _ _ (hA.2.2.kZ (Knows.left (Knows.right au4))) (hF.2.kZ (Knows.left au4))
 replace hK:=hK.up Nj
 have hjl:j=K.facts.length:=by omega
 subst hjl
 have hil:K.after.length=i:=by omega
 have hKr:=aUt
 have avR:q7 (sX qW) K A (pM qW K.facts K.facts.length):=aOn Cq (by rw[hil];exact hA.2.1) rfl (fun t ht=>(hC.facts.2 t ht).2)
 have at1:∀o,o <K.after.length→∃b,b <K.after.length∧sX qW b=o:=fun o ho=>alp Cq ho
 have hf4:=hC.facts.1
 have hrl:=akY avR hf4 Fh at1
 have hCr:=hC.ren avR at1
 have hVr:=hV.ren avR at1
 refine jd 4 [0]<|Jb (vs:=[.agg ⟨[Dm,Dl,.slice Dg 0 Df,Dk,Dj,Di,Dh,vA,zI K.gone,zI K.new,zI K.af,vF]⟩]) [] (fun _ _ h=>h) (GL (K:=iS K A (pM qW K.facts K.facts.length)) hKr hCr hVr) ?_
 rintro _ _ ⟨rfl,rfl⟩
 refine jg 0 []<|zD 21<|js 89 (!decide ((cY K:Int)=(cY (iS K A (pM qW K.facts K.facts.length)):Int))) (fun EH=>?_) (fun EH=>?_)
 ·
  replace EH:=of_decide_eq_false (by simpa using EH)
  exfalso;omega
 replace EH:=of_decide_eq_true (by simpa using EH)
 refine zD 8<|dW [1,1,1,1,1,1,1,1,1,1,0,1,0,0] [] (fun(zz:Nat)=>[(4,zP b4),(5,v27),(6,zP b6),(13,zI (zz:Int))]) (fun(zz:Nat)=>[.b b6 (.cells ⟨[Dm,Dl,.slice Dg 0 Df,Dk,Dj,Di,Dh,vA,zI K.gone,zI K.new,zI K.af,vF]⟩ 40 (0,0)),.l L27,.l X27,.b b4 (.cells ⟨[v0,v1,.slice va 0 vc,v3,v4,v5,.slice lg K.before.length k9,.slice kD K.after.length j7,zI K.gone,zI K.new,zI K.af,.slice iT K.facts.length gN]⟩ 40 (0,0)),.l fr]) (fun(zz:Nat)=>zz≤K.before.length) (fun(zz:Nat)=>K.before.length-zz) 0 (by omega) [0,1,2,3,4] ?_
 rintro i hI K5 hK5 rest
 refine jd 9 [3]<|zJ 94 ((i:Int) <(K.before.length:Int)) (fun Ju=>?_) fun Ju=>?_
 ·
  refine zD 9<|dW [1,1,1,1,1,1,1,1,1,1,0,1,0,0,1,0,0,1,0,0] [K5] (fun(zz:Nat)=>[(4,zP b4),(5,v27),(6,zP b6),(13,zI (i:Int)),(14,zI (zz:Int))]) (fun(zz:Nat)=>[.b b6 (.cells ⟨[Dm,Dl,.slice Dg 0 Df,Dk,Dj,Di,Dh,vA,zI K.gone,zI K.new,zI K.af,vF]⟩ 40 (0,0)),.l L27,.l X27,.b b4 (.cells ⟨[v0,v1,.slice va 0 vc,v3,v4,v5,.slice lg K.before.length k9,.slice kD K.after.length j7,zI K.gone,zI K.new,zI K.af,.slice iT K.facts.length gN]⟩ 40 (0,0)),.l fr]) (fun(zz:Nat)=>zz≤K.after.length) (fun(zz:Nat)=>K.after.length-zz) 0 (by omega) [0,1,2,3,4] ?_
  rintro j hJ K6 hK6 rest
  refine zD 5<|Co Jk<|zD 2<|zJ 100 ((j:Int) <(qW.length:Int)) (fun U0=>?_) fun U0=>?_
  ·
   refine jd 9 [3]<|Jb (vs:=[.agg ⟨[v0,v1,.slice va 0 vc,v3,v4,v5,.slice lg K.before.length k9,.slice kD K.after.length j7,zI K.gone,zI K.new,zI K.af,.slice iT K.facts.length gN]⟩,zI (i:Int),zI (j:Int)]) [] (fun _ _ h=>h) (Qq (a:=i) (b:=j) hK hV (mN hC) (wS hK hC hV) Bb (by omega) (by omega)) ?_
   rintro _ _ ⟨zV,vV,eV,hzV,rfl,rfl,hpV⟩
   refine jg 0 []<|jd 12 [0] ?_
   obtain⟨aLF,Xx⟩:=zG qW j
   refine T5 1 Jk Xx fun bg1 aEb=>nS 0 [1] L27 (fun s _ hZ=>cm Jk aEb hZ Xx)<|aL 6 (fun abV acE Q9=>?_)
   obtain⟨aeg,rfl⟩:∃n:Nat,aLF=(n:Int):=Int.eq_ofNat_of_zero_le (ig (Cq.mem_iff.1 (List.mem_of_getElem? Xx))).1
   have apK:aeg=sX qW j:=by simp[sX,Xx]
   have aur:aeg <K.after.length:=by rw[apK];exact(Gp Cq (by omega)).2
   refine Jb (vs:=[.agg ⟨[Dm,Dl,.slice Dg 0 Df,Dk,Dj,Di,Dh,vA,zI K.gone,zI K.new,zI K.af,vF]⟩,zI (i:Int),zI (aeg:Int)]) [] (fun _ _ h=>h) (Qq (a:=i) (b:=aeg) hKr hVr (mN hCr) (wS hKr hCr hVr) Bb (by show i <K.before.length;omega) (by show aeg <A.length;rw[hA.2.1.1];exact aur)) ?_
   rintro _ _ ⟨zW,vW,eW,hzW,rfl,rfl,hpW⟩
   refine jg 0 []<|bB Q9 [0,1,2,3,4]<|zD 7 ?_
   have hvw:vW=vV∧eW=eV∧(eV=0∨eV=9):=adj hrl.1 (by rw[apK];exact hrl.2 i j (by omega) (by omega)) hzV hzW hpV hpW
   refine zD 5<|js 123 (!decide (vV=vW)) (fun Yc=>?_) (fun Yc=>?_)
   ·
    have ahG:=Yc
    replace ahG:=of_decide_eq_false (by simpa using ahG)
    exfalso;omega
   have ahG:=Yc
   replace ahG:=of_decide_eq_true (by simpa using ahG)
   refine zD 5<|js 128 (!decide (eV=eW)) (fun h20=>?_) (fun h20=>?_)
   ·
    have Hq:=h20
    replace Hq:=of_decide_eq_false (by simpa using Hq)
    exfalso;omega
   have Hq:=h20
   replace Hq:=of_decide_eq_true (by simpa using Hq)
   refine zD 3<|js 131 (!decide (eV=0)) (fun h21=>?_) (fun h21=>?_)
   ·
    have Hp:=h21
    replace Hp:=of_decide_eq_false (by simpa using Hp)
    refine zD 5<|js 135 (!decide (eV=9)) (fun DT=>?_) (fun DT=>?_)
    ·
     replace DT:=of_decide_eq_false (by simpa using DT)
     exfalso;omega
    replace DT:=of_decide_eq_true (by simpa using DT)
    refine zD 4<|ja ((j:Int)+1) (by omega)<|zD 2<|bJ hK6 (j+1) (by omega) (by omega) [0,1,2,3,4] (Sub.refl _)
   have Hp:=h21
   replace Hp:=of_decide_eq_true (by simpa using Hp)
   refine zD 9<|ja ((j:Int)+1) (by omega)<|zD 2<|bJ hK6 (j+1) (by omega) (by omega) [0,1,2,3,4] (Sub.refl _)
  refine zD 4<|ja ((i:Int)+1) (by omega)<|zD 2<|bJ hK5 (i+1) (by omega) (by omega) [0,1,2,3,4] (Sub.refl _)
 refine zD 4<|Jb [] (fun _ _ h=>h) (ak0) ?_
 rintro _ _ ⟨rfl,rfl⟩
 refine jg 0 []<|zD 3<|Ja qC.a.a (.bool true) [4] [] (bY.trans Nj) ⟨rfl,rfl⟩
theorem GG(W:World)(hN:Dn (fun b=>W.heap[b]?) vd xs) {Post:Value→World→Prop}
 (Q8:∀w:World,(∀(b:Nat) (o:Obj),W.heap[b]?=some o→w.heap[b]?=some o)→w.os=W.os→w.output=W.output→Post (.bool true) w):
 ∃N last o w' t',runNT zT (N+1) (solo (G (Frame.enter zT 4 ⟨[vd]⟩ .normal) []) W) #[]=(.ended o w',t')∧runN zT N (solo (G (Frame.enter zT 4 ⟨[vd]⟩ .normal) []) W)= .next last∧step zT last= .ended o w'∧Good zT Post last o w' t':=by
 have ha:aR ⟨fun b=>W.heap[b]?,[]⟩ W:=⟨fun _ _ h=>h,(fun _ _ h=>(by cases h)),by simp,(fun _ _ h=>(by cases h))⟩
 exact acP ha (Qm hN _ _ _ fun v Y w qt pR tH ED=>by
  obtain⟨rfl,rfl⟩:=qt
  exact Q8 w (fun b o hb=>pR.ro b o hb) tH ED)
end Go.L
