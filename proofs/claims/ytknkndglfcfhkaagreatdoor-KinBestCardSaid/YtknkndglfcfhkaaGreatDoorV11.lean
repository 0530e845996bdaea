/- Part 11 of the proof. -/
import Derived.Test.YtknkndglfcfhkaaGreatDoorV10
set_option maxRecDepth 100000
set_option linter.all false
namespace Go.L
open Go Go.Conc Go.Proofs
variable {ro:Nat→Option Obj} {K:aB} {l z z1 ws:List Value} {W:List (List Int)} {n x:Int} {T R:Nat→Nat→Int} {i b k ck j q sz bC r dep by1 fc:Nat} {κ α:Type} {seen:List Nat} {p:Nat→Int} {B:Nat→Nat} {t:cu} {ag:Bool} {v0 v1 v3 v5 v6 v7 vb:Value}
def alh[DecidableEq κ](r:Nat)(kv:κ→Value)(k:κ)(F:List (κ×Value))(b:Nat)(L:Cells):Prop:=
 ∃es ck i u,L=[(r,.map es ck)]∧tC kv F es ck∧sB k F 0=some (i,u)∧(es.toList.map (·.born))[i]?=some b
theorem alh.own[DecidableEq κ]{kv:κ→Value}{k:κ}{F:List (κ×Value)}{L:Cells}(h:alh r kv k F b L):jQ r kv F L:=by
 obtain⟨es,ck,_,_,h1,h2,_⟩:=h
 exact⟨es,ck,h1,h2⟩
def meV(P:Program)(n:Nat)(p:Oper)(e:Env):Option (TypeId×TypeId×Value×Value):=match p.op with
 | .mapEntry T x y=>match a8 P T with
  |some ⟨.map K E,_,_,_⟩=>match bn n e x with
   |some m=>match bn n e y with
    |some k=>some (K,E,m,k)
    |none=>none
   |none=>none
  |_=>none
 |_=>none
def esV(n:Nat)(p:Oper)(e:Env):Option (Value×Value×Value):=match p.op with
 | .entryStore _ x y z=>match bn n e x with
  |some m=>match bn n e y with
   |some b=>match bn n e z with
    |some v=>some (m,b,v)
    |none=>none
   |none=>none
  |none=>none
 |_=>none
theorem Bg[DecidableEq κ]{k:κ}{v:Value}:∀ {F:List (κ×Value)} {i:Nat},sB k F i=none→sB k (F++[(k,v)]) i=some (i+F.length,v)
 | [],i,_=>by simp[sB]
 |x::l,i,h=>by
  simp only[sB] at h
  split at h
  ·cases h
  rename_i hk
  rw[List.cons_append,sB,if_neg hk,Bg h,List.length_cons,show i+1+l.length=i+(l.length+1) by omega]
theorem Yb{kv:κ→Value}{k:κ}{v:Value}:∀(es:List MapEntry) (F:List (κ×Value)) (i:Nat) {u:Value},F[i]?=some (k,u)→es.map (fun e=>(e.key,e.val))=F.map (fun x=>(kv x.1,x.2))→(es.modify i fun e=>{e with val:=v}).map (fun e=>(e.key,e.val))=(tM k v F i).map (fun x=>(kv x.1,x.2))
 | [],[],_,_,h,_=>by simp at h
 | [],_::_,_,_,_,h=>by simp at h
 |_::_,[],_,_,_,h=>by simp at h
 |e::es,x::F,0,_,h1,h=>by
  simp only[List.map_cons,List.cons.injEq,Prod.mk.injEq] at h
  simp at h1;subst h1
  simp[tM,h.2,h.1.1]
 |e::es,x::F,i+1,_,h1,h=>by
  simp only[List.map_cons,List.cons.injEq] at h
  simp at h1
  simp[tM,h.1,Yb es F i h1 h.2]
theorem II{v:Value}:∀(es:List MapEntry) (i:Nat),(es.modify i fun e=>{e with val:=v}).map (·.born)=es.map (·.born)
 | [],i=>by simp
 |e::es,0=>by simp
 |e::es,i+1=>by simp[II es i]
theorem Bx{kx:Value}:∀(es:List MapEntry) (i:Nat),(es.modify i fun e=>{e with key:=kx}).map (·.born)=es.map (·.born)
 | [],i=>by simp
 |e::es,0=>by simp
 |e::es,i+1=>by simp[Bx es i]
theorem Yc{kv:κ→Value}{k:κ}:∀(es:List MapEntry) (F:List (κ×Value)) (i:Nat) {u:Value},F[i]?=some (k,u)→es.map (fun e=>(e.key,e.val))=F.map (fun x=>(kv x.1,x.2))→(es.modify i fun e=>{e with key:=kv k}).map (fun e=>(e.key,e.val))=F.map (fun x=>(kv x.1,x.2))
 | [],[],_,_,h,_=>by simp at h
 | [],_::_,_,_,_,h=>by simp at h
 |_::_,[],_,_,_,h=>by simp at h
 |e::es,x::F,0,_,h1,h=>by
  simp only[List.map_cons,List.cons.injEq,Prod.mk.injEq] at h
  simp at h1;subst h1
  simp[h.2,h.1.2]
 |e::es,x::F,i+1,_,h1,h=>by
  simp only[List.map_cons,List.cons.injEq] at h
  simp at h1
  simp[h.1,Yc es F i h1 h.2]
theorem ZB{es eg:Array MapEntry}(h:∀e∈es.toList,e.born <ck)(hb:eg.toList.map (·.born)=es.toList.map (·.born)):∀e∈eg.toList,e.born <ck:=fun e he=>by
 have:e.born∈eg.toList.map (·.born):=List.mem_map_of_mem he
 rw[hb] at this
 obtain⟨e2,h3,h4⟩:=List.mem_map.1 this
 rw[←h4];exact h e2 h3
section
variable {X:Cx} {o:Option JS}
theorem jSk{β:Type}{f:Oper→Env→Option β}{r:β}{Φ:Cells→Prop}(ps:List Nat)(B:Cells)(hv:eW X.n f o=some r)(hB:dM ps o=some B)
 (hy:∀p e,f p e=some r→(∀c,p.op≠ .defer c)∧∀(R:Cells) (Q:Next→St→Prop) (E:Halt→St→Prop),(∀L',Φ L'→Q .skip ⟨X.ro,L'++R⟩)→bP X.P (execOp (ev X.n e) p) ⟨X.ro,B++R⟩ Q E)
 (hj:∀L',Φ L'→J X (mY ps undef L' o)):J X o:=by
 obtain⟨ops,i,todo,k,e,w,kn,p,rfl,ho,hw,hc⟩:=dz hv
 intro bX
 have hp:=bJ hB
 obtain⟨hd,ht⟩:=hy p e hc
 have:ab X.C X.fn X.az ops (i::todo) (KQ X k) (A X.n e X.D) ⟨X.ro,B++den (dD ps 0 w)⟩:=by
  refine bR X.hC ho hw hd<|ht _ _ _ fun L' qj=>?_
  have:=hj L' qj
  rw[n7 ho] at this
  have:=this bX
  simp only[JP,gk] at this
  show ab _ _ _ _ _ _ _ _
  rw[←aW] at this
  exact this
 have hle:(⟨X.ro,B++den (dD ps 0 w)⟩:St).le ⟨X.ro,den w⟩:=⟨[],by rw[List.append_nil];exact hp,fun b o hb=> .inl hb⟩
 exact this.more X.hC hle
theorem jme[DecidableEq κ]{kv:κ→Value}{F:List (κ×Value)}{K E:TypeId}{L:Cells}{d:TypeDesc}(i:Nat)(k:κ)(hk:Tc X.P K kv)(te:TF X.P E d sz bC z ag)(hm:jQ r kv F L)
 (hj:∀F1 b c L',(((∃u,sB k F 0=some u)∧F1=F)∨(sB k F 0=none∧F1=F++[(k,Pp z ag)]))→alh r kv k F1 b L'→J X (mY [i] (.tuple ⟨[c,zI (b:Int)]⟩) L' o))
 (hv:eW X.n (meV X.P X.n) o=some (K,E,.map (some r),kv k):=by kernel_rfl)(hB:dM [i] o=some L:=by kernel_rfl):J X o:=by
 refine jS (Φ:=fun v L'=>∃F1 b c,(((∃u,sB k F 0=some u)∧F1=F)∨(sB k F 0=none∧F1=F++[(k,Pp z ag)]))∧alh r kv k F1 b L'∧v= .tuple ⟨[c,zI (b:Int)]⟩) [i] _ hv hB (fun p e hf=>?_) (fun v L' qj=>?_)
 ·unfold meV at hf
  split at hf<;>try (cases hf;done)
  rename_i T x y ay
  split at hf<;>try (cases hf;done)
  rename_i K' E' _ _ _ dK
  split at hf<;>try (cases hf;done)
  rename_i m hx
  split at hf<;>try (cases hf;done)
  rename_i k' hy
  simp only[Option.some.injEq,Prod.mk.injEq] at hf
  obtain⟨rfl,rfl,rfl,rfl⟩:=hf
  obtain⟨bfU,tf⟩:=av dK
  refine⟨by rw[ay];simp,fun R Q E hQ=>?_⟩
  obtain⟨es,ck,rfl,CI⟩:=hm
  simp only[execOp,ay,Instr.mapEntry,aa,aZ tf,aF hx,aF hy]
  refine cI (.inr (List.mem_append_left _ List.mem_cons_self)) rfl rfl ?_
  simp only[aa]
  refine hk.chk _ _ ?_
  simp only[aa]
  refine hk.find k _ F CI.1 ?_
  cases x5:sB k F 0 with
  |some u=>
   obtain⟨j,u⟩:=u
   have Ts:=qz x5
   simp only[Nat.sub_zero] at Ts
   have h1:(es.toList.map (fun e=>(e.key,e.val)))[j]?=some (kv k,u):=by rw[CI.1];simp[Ts.2]
   simp only[List.getElem?_map,Array.getElem?_toList] at h1
   cases he:es[j]? with
   |none=>rw[he] at h1;cases h1
   |some e1=>
    rw[he] at h1
    simp only[Option.map_some,Option.some.injEq,Prod.mk.injEq] at h1
    simp only[aa,Instr.keyThatStays,he,Option.map_some,Option.getD_some,h1.1,hk.stay,if_true,ae]
    refine eo (L:=[]) rfl rfl rfl ?_
    simp only[ae]
    refine hQ _ [(r,_)] ⟨F,e1.born,u,.inl ⟨⟨_,x5⟩,rfl⟩,⟨_,_,j,u,rfl,⟨?_,?_,?_⟩,x5,?_⟩,rfl⟩
    ·rw[Array.toList_modify];exact Yc _ _ _ Ts.2 CI.1
    ·rw[Array.toList_modify,Bx];exact CI.2.1
    ·exact ZB CI.2.2 (by rw[Array.toList_modify,Bx])
    rw[Array.toList_modify,Bx,List.getElem?_map,Array.getElem?_toList,he];rfl
  |none=>
   simp only[aa,jU te]
   refine eo (L:=[]) rfl rfl rfl ?_
   simp only[ae]
   have hlen:es.toList.length=F.length:=by have:=congrArg List.length CI.1;simpa using this
   refine hQ _ [(r,_)] ⟨_,ck,_,.inr ⟨x5,rfl⟩,⟨_,_,F.length,_,rfl,⟨?_,?_,?_⟩,by have:=Bg (v:=Pp z ag) x5;rwa[Nat.zero_add] at this,?_⟩,rfl⟩
   ·simp only[Array.toList_push,List.map_append,CI.1];rfl
   ·simp only[Array.toList_push,List.map_append,List.map_cons,List.map_nil]
    refine List.nodup_append.2 ⟨CI.2.1,by simp,?_⟩
    intro a ha b hb
    obtain⟨e2,h3,rfl⟩:=List.mem_map.1 ha
    have:=CI.2.2 e2 h3
    simp only[List.mem_singleton] at hb
    omega
   ·intro e1 h1
    simp only[Array.toList_push,List.mem_append,List.mem_singleton] at h1
    rcases h1 with h1|rfl
    ·have:=CI.2.2 e1 h1;omega
    exact Nat.lt_succ_self _
   simp only[Array.toList_push,List.map_append,List.map_cons,List.map_nil]
   rw[List.getElem?_append_right (by simp[hlen])]
   simp[hlen]
 obtain⟨F1,b,c,h1,h2,rfl⟩:=qj
 exact hj F1 b c L' h1 h2
theorem jes[DecidableEq κ]{kv:κ→Value}{F:List (κ×Value)}{L:Cells}{k:κ}(i:Nat)(v:Value)(hm:alh r kv k F b L)(hj:∀L',jQ r kv (mg k v F) L'→J X (mY [i] undef L' o))
 (hv:eW X.n (esV X.n) o=some (.map (some r),zI (b:Int),v):=by kernel_rfl)(hB:dM [i] o=some L:=by kernel_rfl):J X o:=by
 refine jSk (Φ:=jQ r kv (mg k v F)) [i] _ hv hB (fun p e hf=>?_) hj
 unfold esV at hf
 split at hf<;>try (cases hf;done)
 rename_i T x y zz ay
 split at hf<;>try (cases hf;done)
 rename_i m hx
 split at hf<;>try (cases hf;done)
 rename_i b' hy
 split at hf<;>try (cases hf;done)
 rename_i v' hz
 simp only[Option.some.injEq,Prod.mk.injEq] at hf
 obtain⟨rfl,rfl,rfl⟩:=hf
 refine⟨by rw[ay];simp,fun R Q E hQ=>?_⟩
 obtain⟨es,ck,j,u,rfl,CI,x5,hb⟩:=hm
 have Ts:=qz x5
 simp only[Nat.sub_zero] at Ts
 simp only[execOp,ay,Instr.entryStore,aa,aF hx,aF hy,aF hz]
 refine cI (.inr (List.mem_append_left _ List.mem_cons_self)) rfl rfl ?_
 have aRC:es.findIdx? (fun e=>(e.born:Int)==(b:Int))=some j:=by
  rw[List.getElem?_map,Array.getElem?_toList] at hb
  obtain⟨e1,he,rfl⟩:=Option.map_eq_some_iff.1 hb
  obtain⟨h1,h2⟩:=Array.getElem?_eq_some_iff.1 he
  refine Array.findIdx?_eq_some_iff_getElem.2 ⟨h1,by simp[h2],fun q hq=>?_⟩
  have lZ:=CI.2.1
  have:=List.pairwise_iff_getElem.1 lZ q j (by simp;omega) (by simp;omega) hq
  simp only[List.getElem_map,Array.getElem_toList,h2] at this
  simp only[beq_iff_eq]
  omega
 simp only[aa,asInt,asIntOf,ae,aRC]
 refine eo (L:=[]) rfl rfl rfl ?_
 show Q .skip _
 refine hQ [(r,_)] ⟨_,_,rfl,?_,?_,?_⟩
 ·rw[Array.toList_modify,mg,x5];exact Yb _ _ _ Ts.2 CI.1
 ·rw[Array.toList_modify,II];exact CI.2.1
 exact ZB CI.2.2 (by rw[Array.toList_modify,II])
end
abbrev v4(a b c d:Int):Value:= .agg ⟨[zI a,zI b,zI c,zI d]⟩
theorem aIq{P:Program}{T:TypeId}(tf:TF P T (.array 4 3) sz bC z ag)(t3:TF P 3 (.int .i64) 1 by1 z1 false)(a b c d a' b' c' d':Int):
 EqD P (dep+2) T (v4 a b c d) (v4 a' b' c' d') (a==a'&&(b==b'&&(c==c'&&(d==d'&&true)))):=by
 intro α s k Q E
 rw[Op.equalIn]
 simp only[aa,aZ tf,cg t3]
 simp only[Std.Legacy.Range.forIn_eq_forIn_range',Std.Legacy.Range.size,Nat.sub_zero,Nat.add_sub_cancel,Nat.div_one,List.range'_succ,List.range'_zero,List.forIn_cons,List.forIn_nil,aa,Nat.zero_add,Nat.mul_one]
 have p (l:List Value) (o:Nat) (v:Value) (h:nth l o=some v):I0 P 3 l o v:=jY t3 h
 rw[p _ 0 (zI a) rfl];simp only[aa]
 rw[p _ 0 (zI a') rfl];simp only[aa]
 rw[n6 t3 a a']
 cases ha:a==a' with
 |false=>simp only[Bool.not_false,if_true,ae,aa,Bool.false_and]
 |true=>
 simp only[Bool.not_true,Bool.false_eq_true,if_false,ae,Bool.true_and,aa]
 rw[p _ 1 (zI b) rfl];simp only[aa]
 rw[p _ 1 (zI b') rfl];simp only[aa]
 rw[n6 t3 b b']
 cases hb:b==b' with
 |false=>simp only[Bool.not_false,if_true,ae,aa,Bool.false_and]
 |true=>
 simp only[Bool.not_true,Bool.false_eq_true,if_false,ae,Bool.true_and,aa]
 rw[p _ 2 (zI c) rfl];simp only[aa]
 rw[p _ 2 (zI c') rfl];simp only[aa]
 rw[n6 t3 c c']
 cases hc:c==c' with
 |false=>simp only[Bool.not_false,if_true,ae,aa,Bool.false_and]
 |true=>
 simp only[Bool.not_true,Bool.false_eq_true,if_false,ae,Bool.true_and,aa]
 rw[p _ 3 (zI d) rfl];simp only[aa]
 rw[p _ 3 (zI d') rfl];simp only[aa]
 rw[n6 t3 d d']
 cases hd:d==d' with
 |false=>simp only[Bool.not_false,if_true,ae,aa,Bool.false_and]
 |true=>simp only[Bool.not_true,Bool.false_eq_true,if_false,ae,Bool.true_and,aa]
theorem ck4{P:Program}{T:TypeId}(tf:TF P T (.array 4 3) sz bC z ag)(t3:TF P 3 (.int .i64) 1 by1 z1 false)(a b c d:Int):CkD P (dep+2) T (v4 a b c d):=by
 intro bb α K s Q E
 rw[Instr.checkKey]
 simp only[aa,aZ tf]
 simp only[Std.Legacy.Range.forIn_eq_forIn_range',Std.Legacy.Range.size,Nat.sub_zero,Nat.add_sub_cancel,Nat.div_one,List.range'_succ,List.range'_zero,List.forIn_cons,List.forIn_nil,aa,Nat.zero_add,cg t3,Nat.zero_mul,Nat.mul_one]
 have p (l:List Value) (o:Nat) (v:Value) (h:nth l o=some v):I0 P 3 l o v:=jY t3 h
 rw[p _ 0 (zI a) rfl];simp only[aa];rw[Iw t3 a bb];simp only[ae,aa,cg t3,Nat.mul_one]
 rw[p _ 1 (zI b) rfl];simp only[aa];rw[Iw t3 b bb];simp only[ae,aa,cg t3,Nat.mul_one]
 rw[p _ 2 (zI c) rfl];simp only[aa];rw[Iw t3 c bb];simp only[ae,aa,cg t3,Nat.mul_one]
 rw[p _ 3 (zI d) rfl];simp only[aa];rw[Iw t3 d bb];simp only[ae,aa]
abbrev P4:=Int×Int×Int×Int
abbrev Ja(x:P4):Value:=v4 x.1 x.2.1 x.2.2.1 x.2.2.2
theorem agA:Tc zT 126 Ja:=agz (m8 Tryz.typeInfo126 Tryz.underlying126 rfl rfl rfl rfl rfl rfl) (fun k=>⟨_,rfl⟩)
 (fun k=>ck4 (dep:=9998) (m8 Tryz.typeInfo126 Tryz.underlying126 rfl rfl rfl rfl rfl rfl) mz _ _ _ _)
 (fun a b=>by
  have h:=aIq (dep:=9998) (m8 Tryz.typeInfo126 Tryz.underlying126 rfl rfl rfl rfl rfl rfl) mz a.1 a.2.1 a.2.2.1 a.2.2.2 b.1 b.2.1 b.2.2.1 b.2.2.2
  have e:(a.1==b.1&&(a.2.1==b.2.1&&(a.2.2.1==b.2.2.1&&(a.2.2.2==b.2.2.2&&true))))=decide (a=b):=by
   rcases a with ⟨x,y,z,t⟩;rcases b with ⟨u,v,w,r⟩
   rw[Bool.eq_iff_iff];simp
  rwa[e] at h)
 (fun k=>by simp[Instr.sameBits])
structure e8 where
 c:Nat→Nat→Int
abbrev zp(m:e8):List Value:=[zI (m.c 0 0),zI (m.c 0 1),zI (m.c 0 2),zI (m.c 0 3),zI (m.c 1 0),zI (m.c 1 1),zI (m.c 1 2),zI (m.c 1 3),zI (m.c 2 0),zI (m.c 2 1),zI (m.c 2 2),zI (m.c 2 3),zI (m.c 3 0),zI (m.c 3 1),zI (m.c 3 2),zI (m.c 3 3)]
theorem Fh{m:e8}{a:Nat}(h:a <4)(k:b <4):nth (zp m) (0+(a:Int).toNat*4+(b:Int).toNat*1)=some (zI (m.c a b)):=by
 rcases Aa h with rfl|rfl|rfl|rfl<;>rcases Aa k with rfl|rfl|rfl|rfl<;>rfl
def rJ(m:e8)(a b:Nat)(v:Int):e8:=⟨fun i j=>if i=a∧j=b then v else m.c i j⟩
theorem anG{m:e8}{a:Nat}{v:Int}(h:a <4)(k:b <4):dB (zp m) (0+(a:Int).toNat*4+(b:Int).toNat*1) [zI v]=zp (rJ m a b v):=by
 rcases Aa h with rfl|rfl|rfl|rfl<;>rcases Aa k with rfl|rfl|rfl|rfl<;>rfl
theorem anH{m:e8}{a:Nat}{v:Value}(h:a <4)(k:b <4):Nat.ble ((0+(a:Int).toNat*4+(b:Int).toNat*1)+[v].length) (zp m).length=true:=by
 rcases Aa h with rfl|rfl|rfl|rfl<;>rcases Aa k with rfl|rfl|rfl|rfl<;>rfl
def pI(x:ah):Nat→Int
 |0=>x.w0
 |1=>x.w1
 |2=>x.w2
 |_=>x.w3
def aE(zs:List ah):e8:=⟨fun i j=>((zs.filter fun x=>decide (pI x i=(j:Int)+1)).length:Int)⟩
theorem It(zs:List ah)(i j:Nat):0≤(aE zs).c i j∧(aE zs).c i j≤zs.length:=by
 have:=List.length_filter_le (fun x=>decide (pI x i=(j:Int)+1)) zs
 simp only[aE];omega
theorem Br{zs ys:List ah}(h:zs.Perm ys):aE zs=aE ys:=by
 simp only[aE,(h.filter _).length_eq]
theorem Fj{r:bE}(hp:∀i,0≤p i∧p i≤4)(q:Nat):0≤pI (bx K r i p) q∧pI (bx K r i p) q≤4:=match q with
 |0=>hp 0
 |1=>hp 1
 |2=>hp 2
 |_+3=>hp 3
def xd:Prop:=∀ {ro:Nat→Option Obj} {v:Value} {zs:List ah},bD ro v 8 cE zs→zs.length≤100000→(∀x∈zs,∀q,0≤pI x q∧pI x q≤4)→dO zT 54 [v] ro [] (fun r Y=>r= .agg ⟨zp (aE zs)⟩∧Y=[])
def mH(m:e8)(n:Int)(i:Nat):Nat→List (List Int)
 |0=>[]
 |j+1=>mH m n i j++(bif decide (m.c i j=n) then [[(i:Int),(j:Int)]] else [])
def pe(m:e8)(n:Int)(w:Nat):Nat→List (List Int)
 |0=>[]
 |i+1=>pe m n w i++mH m n i w
theorem X5{m:e8}(h:m.c i j=n):mH m n i (j+1)=mH m n i j++[[(i:Int),(j:Int)]]:=by rw[mH,decide_eq_true h];rfl
theorem X6{m:e8}(h:¬m.c i j=n):mH m n i (j+1)=mH m n i j:=by rw[mH,decide_eq_false h];exact List.append_nil _
theorem Cm(m:e8)(n:Int)(i:Nat):∀j,(mH m n i j).length≤j
 |0=>Nat.le_refl _
 |j+1=>by have:=Cm m n i j;rw[mH,List.length_append];cases decide (m.c i j=n)<;>simp<;>omega
theorem Ls(m:e8)(n:Int){w:Nat}(hw:w≤4):∀i,(pe m n w i).length≤4*i
 |0=>Nat.le_refl _
 |i+1=>by have:=Ls m n hw i;have:=Cm m n i w;rw[pe,List.length_append];omega
theorem an2{rows:List bE}(hK:fI ro l K)(hV:eE K)(hR:rows.length≤2)(hB:gL ro l K rows)(hCt:xd):Dh zT 82 [.agg ⟨l⟩,.func (.func 83) ⟨[]⟩ ⟨[]⟩] ro [] (fun r Y=>∃zs v e,zs.Perm (cA K (aC K) (bM K.gone K.new K.af) rows)∧r= .tuple ⟨[v,zI e]⟩∧((zs=[]∧v= zS∧e=9∧Y=[])∨(zs≠[]∧e=0∧∀aG,Knows aG Y→LL aG v (pe (aE zs) ((zs.length:Nat):Int) K.after.length K.before.length)))):=by
 obtain⟨v0,v1,v3,v4,v5,v6,v7,vb,fa,fc,hv,rfl,_⟩:=id hK
 refine AZ au [] [] ba fun fr=>zD 2<|jn fun b2=>jd 6 [0]<|agY (vs:=[.agg ⟨[v0,v1,.slice fa 0 fc,v3,v4,v5,v6,v7,zI K.gone,zI K.new,zI K.af,vb]⟩]) [] (fun _ _ h=>h) (Ra hK hV hR hB) ?_
 rintro _ aI Y15 bZ ⟨f15,zs,v15,e15,rfl,BP,hz,awI,he⟩
 have NW:∀x∈zs,(-4≤x.gone∧x.gone≤4)∧(-4≤x.new∧x.new≤4)∧(0≤x.af∧x.af≤4):=fun x hx=>by obtain⟨i,r,p,_,_,rfl,_⟩:=dV (hz.mem_iff.1 hx);exact lV hV r i p
 have Yy:zs.length≤1250:=by rw[hz.length_eq];exact mQ hV _ _ hR
 have hpr:∀x∈zs,∀q,0≤pI x q∧pI x q≤4:=fun x hx=>by obtain⟨i,r,p,_,hp,rfl,_⟩:=dV (hz.mem_iff.1 hx);exact Fj ((iP hV _).2 p hp)
 obtain⟨d0,d1,d2,d3,d4,d5,d6,d7,d8,d9,dh,hf,pR,nj,hr,CN,HR,J2,bV⟩:=id BP
 obtain⟨lg,JD,JB,ky,rfl,JC,Eo,En⟩:=CN
 obtain⟨lj,JI,JG,kz,rfl,JH,Es,Ep⟩:=HR
 have BK:=hV.before.1
 have EJ:=hV.after.1
 refine zD 7<|jf [0] Y15 (fun ro4 mw Pe=>?_)
 have hZ1:=awI.kg Pe
 obtain⟨rR,JL,JJ,pz,rfl,JK,Cd,Cc⟩:=hZ1
 refine zD 7<|js 20 (!decide (e15=0)) (fun h5=>?_) (fun h5=>?_)
 ·
  replace h5:=of_decide_eq_false (by simpa using h5)
  have pq:zs=[]∧e15=9:=by rcases he with h| ⟨_,h⟩;exact h;omega
  refine zD 8<|O8 qC.a.a (.tuple ⟨[zS,zI e15]⟩) [1] [] (bZ.trans mw) ⟨zs,_,_,hz,rfl,.inl ⟨pq.1,rfl,pq.2,rfl⟩⟩
 replace h5:=of_decide_eq_true (by simpa using h5)
 have pq:zs≠[]∧e15=0:=by rcases he with ⟨_,h⟩|h;omega;exact h
 refine zD 9<|jc (vs:=[.slice rR zs.length pz]) [] (hCt (show bD _ _ _ _ _ from ⟨rR,JL,JJ,pz,rfl,JK,Cd,Cc⟩) (by omega) hpr) ?_
 rintro _ _ ⟨rfl,rfl⟩
 refine jg 0 []<|jn fun sC=>jd 9 [0]<|jl (b:=f15) (off:=0) (m:=13) (vs:=[d0,d1,d2,d3,d4,d5,.slice lg K.before.length ky,.slice lj K.after.length kz,zI K.gone,zI K.new,zI K.af,d8,d9]) 6 ⟨_,_,_,.inl (mw _ _ hf),rfl⟩<|zD 4<|nY<|nY<|dP [1,1,1,1,1,0,1,0,0] [] (fun(zz:Nat×Value×Cells×(List Value)×Cells)=>[(1,.func (.func 83) ⟨[]⟩ ⟨[]⟩),(4,zS),(5,zI 0),(6,zP f15),(7,.slice rR zs.length pz),(9,zz.2.1),(10,zP sC),(29,zI (K.before.length:Int)),(30,zI (zz.1:Int))]) (fun zz=>[.l zz.2.2.1,.l zz.2.2.2.2,.b sC (.cells ⟨[zI ((aE zs).c 0 0),zI ((aE zs).c 0 1),zI ((aE zs).c 0 2),zI ((aE zs).c 0 3),zI ((aE zs).c 1 0),zI ((aE zs).c 1 1),zI ((aE zs).c 1 2),zI ((aE zs).c 1 3),zI ((aE zs).c 2 0),zI ((aE zs).c 2 1),zI ((aE zs).c 2 2),zI ((aE zs).c 2 3),zI ((aE zs).c 3 0),zI ((aE zs).c 3 1),zI ((aE zs).c 3 2),zI ((aE zs).c 3 3)]⟩ 122 (0,0)),.b b2 (.cells ⟨[v0,v1,.slice fa 0 fc,v3,v4,v5,v6,v7,zI K.gone,zI K.new,zI K.af,vb]⟩ 40 (0,0)),.l fr]) (fun zz=>(zz.1≤K.before.length∧zz.2.2.2.1.length=(pe (aE zs) ((zs.length:Nat):Int) K.after.length zz.1).length)∧ax zz.2.1 1 22 fH zz.2.2.2.1 zz.2.2.1∧∀aG,Knows aG zz.2.2.2.2→de (fun w l=>bD aG w 1 cm l) zz.2.2.2.1 (pe (aE zs) ((zs.length:Nat):Int) K.after.length zz.1)) (fun zz=>K.before.length-zz.1) (⟨0,zS,[],[],[]⟩) ⟨⟨by dsimp only;omega,rfl⟩,ax.nil _ _ _,fun _ _=> .nil⟩ [1,0,2,3,4] ?_
 rintro⟨i,vO,LO,es,Z⟩ hI K1 bH rest
 dsimp only at hI
 have hil:=Ls (aE zs) ((zs.length:Nat):Int) (w:=K.after.length) (by omega) i
 refine zD 5<|zJ 31 ((i:Int) <(K.before.length:Int)) (fun h6=>?_) fun h6=>?_
 ·
  refine zD 15<|jl (b:=f15) (off:=0) (m:=13) (vs:=[d0,d1,d2,d3,d4,d5,.slice lg K.before.length ky,.slice lj K.after.length kz,zI K.gone,zI K.new,zI K.af,d8,d9]) 7 ⟨_,_,_,.inl (mw _ _ hf),rfl⟩<|zD 4<|dP [1,1,1,1,1,0,1,0,0,1,1,0,0,1,1,0,0] [K1] (fun(zz:Nat×Value×Cells×(List Value)×Cells)=>[(1,.func (.func 83) ⟨[]⟩ ⟨[]⟩),(4,zS),(5,zI 0),(6,zP f15),(7,.slice rR zs.length pz),(9,zz.2.1),(10,zP sC),(11,zI (i:Int)),(29,zI (K.before.length:Int)),(30,zI (i:Int)),(38,zI (K.after.length:Int)),(39,zI (zz.1:Int))]) (fun zz=>[.l zz.2.2.1,.l zz.2.2.2.2,.b sC (.cells ⟨[zI ((aE zs).c 0 0),zI ((aE zs).c 0 1),zI ((aE zs).c 0 2),zI ((aE zs).c 0 3),zI ((aE zs).c 1 0),zI ((aE zs).c 1 1),zI ((aE zs).c 1 2),zI ((aE zs).c 1 3),zI ((aE zs).c 2 0),zI ((aE zs).c 2 1),zI ((aE zs).c 2 2),zI ((aE zs).c 2 3),zI ((aE zs).c 3 0),zI ((aE zs).c 3 1),zI ((aE zs).c 3 2),zI ((aE zs).c 3 3)]⟩ 122 (0,0)),.b b2 (.cells ⟨[v0,v1,.slice fa 0 fc,v3,v4,v5,v6,v7,zI K.gone,zI K.new,zI K.af,vb]⟩ 40 (0,0)),.l fr]) (fun zz=>(zz.1≤K.after.length∧zz.2.2.2.1.length=((pe (aE zs) ((zs.length:Nat):Int) K.after.length i)++(mH (aE zs) ((zs.length:Nat):Int) i zz.1)).length)∧ax zz.2.1 1 22 fH zz.2.2.2.1 zz.2.2.1∧∀aG,Knows aG zz.2.2.2.2→de (fun w l=>bD aG w 1 cm l) zz.2.2.2.1 ((pe (aE zs) ((zs.length:Nat):Int) K.after.length i)++(mH (aE zs) ((zs.length:Nat):Int) i zz.1))) (fun zz=>K.after.length-zz.1) (⟨0,vO,LO,es,Z⟩) ⟨⟨by dsimp only;omega,by simpa [mH] using hI.1.2⟩,hI.2.1,by simpa [mH] using hI.2.2⟩ (zN 0 5) ?_
  rintro⟨j,vO,LO,es,Z⟩ hJ K2 mr rest
  dsimp only at hJ
  have hjl:=Cm (aE zs) ((zs.length:Nat):Int) i j
  have hel:=hJ.1.2
  rw[List.length_append] at hel
  refine zD 5<|zJ 40 ((j:Int) <(K.after.length:Int)) (fun h7=>?_) fun h7=>?_
  ·
   refine zD 10 ?_
   have iJ:=It zs i j
   refine zD 4<|LV (b:=sC) (off:=0) (len:=4) (sz:=4) (i:Int) (by omega)<|LV (b:=sC) (off:=0+(i:Int).toNat*4) (len:=4) (sz:=1) (j:Int) (by omega)<|pg (b:=sC) (off:=0+(i:Int).toNat*4+(j:Int).toNat*1) (m:=1) (vs:=[zI ((aE zs).c i j)]) 0 [2] [(sC,.cells ⟨[zI ((aE zs).c 0 0),zI ((aE zs).c 0 1),zI ((aE zs).c 0 2),zI ((aE zs).c 0 3),zI ((aE zs).c 1 0),zI ((aE zs).c 1 1),zI ((aE zs).c 1 2),zI ((aE zs).c 1 3),zI ((aE zs).c 2 0),zI ((aE zs).c 2 1),zI ((aE zs).c 2 2),zI ((aE zs).c 2 3),zI ((aE zs).c 3 0),zI ((aE zs).c 3 1),zI ((aE zs).c 3 2),zI ((aE zs).c 3 3)]⟩ 122 (0,0))] (fun s _ hZ=>sR (hZ _ (.head _)) (Fh (m:=aE zs) (by omega) (by omega)))<|zD 2<|jp (vs:=[zI ((aE zs).c i j),zI (zs.length:Int)]) [] [] (fun aI hs hZ=>avq)<|zD 1<|js 50 (decide (((aE zs).c i j)=(zs.length:Int))) (fun h8=>?_) (fun h8=>?_)
   ·
    refine zD 5<|jn fun b54=>jn fun b55=>iC (sz:=1) (ps:=es) (qs:=[(.slice (some ⟨b54,0,none⟩) 2 2:Value)]) (enc:=fH) (w:= .slice (some ⟨b55,0,none⟩) 1 1) [2] [0] [(b55,.cells ⟨([(.slice (some ⟨b54,0,none⟩) 2 2:Value)].map fH).flatten⟩ 22 (0,0))] (hJ.2.1) (fun s _ hZ=>bK [(.slice (some ⟨b54,0,none⟩) 2 2:Value)] (hZ _ (.head _)) (by intro p hp;rfl)) (by intro p hp;rw[List.mem_singleton] at hp;subst hp;exact aj rfl) (by simp only[List.length_cons,List.length_nil];omega) (fun v56 L56 wz=>?_)
    obtain⟨aab,Z8,aiq⟩:=wz.form
    subst aiq
    refine zD 3<|ja ((j:Int)+1) (by omega)<|zD 2<|LU mr (⟨j+1,(.slice aab ((es++[(.slice (some ⟨b54,0,none⟩) 2 2:Value)])).length Z8),L56,(es++[(.slice (some ⟨b54,0,none⟩) 2 2:Value)]),Z++[(b54,.cells ⟨[zI (i:Int),zI (j:Int)]⟩ 3 (0,0))]⟩) ⟨⟨by dsimp only;omega,by dsimp only;rw[X5 (of_decide_eq_true (by assumption)),←List.append_assoc];simp only[zM] at*;omega⟩,wz,fun aG hk=>by dsimp only;rw[X5 (of_decide_eq_true (by assumption)),←List.append_assoc];exact(hJ.2.2 aG hk.left).snoc (bU (enc:=cm) (T:=3) [(i:Int),(j:Int)] (hk.right _ (.head _)) (fun _ _=>rfl))⟩ (by dsimp only;omega) [[0],[3,2],[4],[5],[6]] (Sub.refl _)
   refine zD 3<|ja ((j:Int)+1) (by omega)<|zD 2<|bI mr (⟨j+1,vO,LO,es,Z⟩) ⟨⟨by dsimp only;omega,by dsimp only;rw[X6 (of_decide_eq_false (by assumption))];exact hJ.1.2⟩,hJ.2.1,by dsimp only;rw[X6 (of_decide_eq_false (by assumption))];exact hJ.2.2⟩ (by dsimp only;omega) (zN 0 5) (Sub.refl _)
  refine zD 3<|ja ((i:Int)+1) (by omega)<|zD 2<|bI bH (⟨i+1,vO,LO,es,Z⟩) ⟨⟨by dsimp only;omega,by have:=hJ.1.2;rw[show j=K.after.length by omega] at this;exact this⟩,hJ.2.1,by have:=hJ.2.2;rw[show j=K.after.length by omega] at this;exact this⟩ (by dsimp only;omega) (zN 0 5) (Sub.refl _)
 refine zD 9<|aO9 qC.a.a (.tuple ⟨[vO,zI 0]⟩) [0,1,4] LO Z (bZ.trans mw) ⟨zs,_,_,hz,rfl,.inr ⟨pq.1,rfl,fun aG hk=>⟨es,hI.2.1.kg hk.left,by have:=hI.2.2 aG hk.right;rwa[show i=K.before.length by omega] at this⟩⟩⟩
structure xe where
 f:Bool
 a:Int
 b:Int
 w:Int
def acs(m:e8)(n:Int)(i j:Nat):Int:=max (m.c i j) (n-m.c i j)
def BA(m:e8)(n:Int)(i:Nat)(s:xe):Nat→xe
 |0=>s
 |j+1=>if acs m n i j <(BA m n i s j).w then ⟨true,i,j,acs m n i j⟩ else BA m n i s j
def acu(m:e8)(n:Int)(w:Nat):Nat→xe
 |0=>⟨false,0,0,n⟩
 |i+1=>BA m n i (acu m n w i) w
def WN(s:xe):Int×Int×Int×Int:=bif s.f then (s.a,s.b,s.w,0) else (0,0,0,11)
theorem azf{m:e8}{s:xe}{f:Bool}{a b w:Int}(h:(⟨f,a,b,w⟩:xe)=BA m n i s j)(h2:acs m n i j <w):(⟨true,i,j,acs m n i j⟩:xe)=BA m n i s (j+1):=by rw[BA,←h,if_pos h2]
theorem akR{m:e8}{s:xe}{f:Bool}{a b w:Int}(h:(⟨f,a,b,w⟩:xe)=BA m n i s j)(h2:¬acs m n i j <w):(⟨f,a,b,w⟩:xe)=BA m n i s (j+1):=by rw[BA,←h,if_neg h2]
theorem avp{rows:List bE}(hK:fI ro l K)(hV:eE K)(hR:rows.length≤2)(hB:gL ro l K rows)(hCt:xd):Dh zT 46 [.agg ⟨l⟩] ro [] (fun r Y=>∃zs v e,zs.Perm (cA K (aC K) (bM K.gone K.new K.af) rows)∧r= .tuple ⟨[v,zI e]⟩∧((zs=[]∧v= zS∧e=9∧Y=[])∨(zs≠[]∧e=0∧∀aG,Knows aG Y→LL aG v (pe (aE zs) ((zs.length:Nat):Int) K.after.length K.before.length)))):=by
 obtain⟨v0,v1,v3,v4,v5,v6,v7,vb,fa,fc,hv,rfl,_⟩:=id hK
 refine AZ au [] [] ba fun fr=>zD 2<|jn fun b1=>jd 6 [0]<|NJ (vs:=[.agg ⟨[v0,v1,.slice fa 0 fc,v3,v4,v5,v6,v7,zI K.gone,zI K.new,zI K.af,vb]⟩,.func (.func 83) ⟨[]⟩ ⟨[]⟩]) [] (fun _ _ h=>h) (an2 hK hV hR hB hCt) ?_
 rintro _ Y5 ⟨zs,v5,e5,hz,rfl,hcs⟩
 refine zD 6<|O8 qC (.tuple ⟨[v5,zI e5]⟩) [0,2] Y5 (Sub.refl _) ⟨zs,v5,e5,hz,rfl,hcs⟩
theorem aO2{rows:List bE}(hK:fI ro l K)(hV:eE K)(hR:rows.length≤2)(hB:gL ro l K rows)(hCt:xd):Dh zT 50 [.agg ⟨l⟩] ro [] (fun r Y=>∃zs a b w e,zs.Perm (cA K (aC K) (bM K.gone K.new K.af) rows)∧Y=[]∧r= .tuple ⟨[zI a,zI b,zI w,zI e]⟩∧((zs=[]∧a=0∧b=0∧w=0∧e=9)∨(zs≠[]∧(a,b,w,e)=WN (acu (aE zs) ((zs.length:Nat):Int) K.after.length K.before.length)))):=by
 obtain⟨v0,v1,v3,v4,v5,v6,v7,vb,fa,fc,hv,rfl,_⟩:=id hK
 refine AZ au [] [] ba fun fr=>zD 2<|jn fun b1=>jd 8 [0]<|agY (vs:=[.agg ⟨[v0,v1,.slice fa 0 fc,v3,v4,v5,v6,v7,zI K.gone,zI K.new,zI K.af,vb]⟩]) [] (fun _ _ h=>h) (Ra hK hV hR hB) ?_
 rintro _ aI Y14 bZ ⟨f14,zs,v14,Fy,rfl,BP,hz,NY,he⟩
 have NW:∀x∈zs,(-4≤x.gone∧x.gone≤4)∧(-4≤x.new∧x.new≤4)∧(0≤x.af∧x.af≤4):=fun x hx=>by obtain⟨i,r,p,_,_,rfl,_⟩:=dV (hz.mem_iff.1 hx);exact lV hV r i p
 have Yy:zs.length≤1250:=by rw[hz.length_eq];exact mQ hV _ _ hR
 have hpr:∀x∈zs,∀q,0≤pI x q∧pI x q≤4:=fun x hx=>by obtain⟨i,r,p,_,hp,rfl,_⟩:=dV (hz.mem_iff.1 hx);exact Fj ((iP hV _).2 p hp)
 obtain⟨d0,d1,d2,d3,d4,d5,d6,d7,d8,d9,dh,hf,pR,nj,hr,CN,HR,J2,bV⟩:=id BP
 obtain⟨lg,JD,JB,ky,rfl,JC,Eo,En⟩:=CN
 obtain⟨lj,JI,JG,kz,rfl,JH,Es,Ep⟩:=HR
 have BK:=hV.before.1
 have EJ:=hV.after.1
 refine zD 7<|jf [0] Y14 (fun ro4 mw Pe=>?_)
 have hZ1:=NY.kg Pe
 obtain⟨rR,JL,JJ,pz,rfl,JK,Cd,Cc⟩:=hZ1
 refine zD 7<|js 20 (!decide (Fy=0)) (fun h5=>?_) (fun h5=>?_)
 ·
  replace h5:=of_decide_eq_false (by simpa using h5)
  have pq:zs=[]∧Fy=9:=by rcases he with h| ⟨_,h⟩;exact h;omega
  refine zD 10<|O8 qC.a.a (.tuple ⟨[zI 0,zI 0,zI 0,zI Fy]⟩) [1] [] (bZ.trans mw) ⟨zs,_,_,_,_,hz,rfl,rfl,.inl ⟨pq.1,rfl,rfl,rfl,pq.2⟩⟩
 replace h5:=of_decide_eq_true (by simpa using h5)
 have pq:zs≠[]∧Fy=0:=by rcases he with ⟨_,h⟩|h;omega;exact h
 refine zD 5<|jc (vs:=[.slice rR zs.length pz]) [] (hCt (show bD _ _ _ _ _ from ⟨rR,JL,JJ,pz,rfl,JK,Cd,Cc⟩) (by omega) hpr) ?_
 rintro _ _ ⟨rfl,rfl⟩
 refine jg 0 []<|jn fun b8=>jd 16 [0]<|jl (b:=f14) (off:=0) (m:=13) (vs:=[d0,d1,d2,d3,d4,d5,.slice lg K.before.length ky,.slice lj K.after.length kz,zI K.gone,zI K.new,zI K.af,d8,d9]) 6 ⟨_,_,_,.inl (mw _ _ hf),rfl⟩<|zD 4<|dP [1,1,1,1,1,0,1,0,0] [] (fun(zz:Nat×Bool×Int×Int×Int)=>[(2,zI zz.2.2.1),(3,zI zz.2.2.2.1),(4,zI zz.2.2.2.2),(5,zI Fy),(6,zP f14),(7,.slice rR zs.length pz),(8,zP b8),(9,.bool zz.2.1),(31,zI (K.before.length:Int)),(32,zI (zz.1:Int))]) (fun zz=>[.b b8 (.cells ⟨[zI ((aE zs).c 0 0),zI ((aE zs).c 0 1),zI ((aE zs).c 0 2),zI ((aE zs).c 0 3),zI ((aE zs).c 1 0),zI ((aE zs).c 1 1),zI ((aE zs).c 1 2),zI ((aE zs).c 1 3),zI ((aE zs).c 2 0),zI ((aE zs).c 2 1),zI ((aE zs).c 2 2),zI ((aE zs).c 2 3),zI ((aE zs).c 3 0),zI ((aE zs).c 3 1),zI ((aE zs).c 3 2),zI ((aE zs).c 3 3)]⟩ 122 (0,0)),.b b1 (.cells ⟨[v0,v1,.slice fa 0 fc,v3,v4,v5,v6,v7,zI K.gone,zI K.new,zI K.af,vb]⟩ 40 (0,0)),.l fr]) (fun zz=>zz.1≤K.before.length∧(⟨zz.2.1,zz.2.2.1,zz.2.2.2.1,zz.2.2.2.2⟩:xe)=(acu (aE zs) ((zs.length:Nat):Int) K.after.length zz.1)) (fun zz=>K.before.length-zz.1) (⟨0,false,0,0,((zs.length:Nat):Int)⟩) ⟨by dsimp only;omega,rfl⟩ [0,1,2] ?_
 rintro⟨i,qf,qa,qb,qw⟩ hI K1 bH rest
 dsimp only at hI
 refine zD 5<|zJ 33 ((i:Int) <(K.before.length:Int)) (fun h6=>?_) fun h6=>?_
 ·
  refine zD 15<|jl (b:=f14) (off:=0) (m:=13) (vs:=[d0,d1,d2,d3,d4,d5,.slice lg K.before.length ky,.slice lj K.after.length kz,zI K.gone,zI K.new,zI K.af,d8,d9]) 7 ⟨_,_,_,.inl (mw _ _ hf),rfl⟩<|zD 4<|dP [1,1,1,1,1,0,1,0,0,1,1,0,0,1,1,0,0] [K1] (fun(zz:Nat×Bool×Int×Int×Int)=>[(2,zI zz.2.2.1),(3,zI zz.2.2.2.1),(4,zI zz.2.2.2.2),(5,zI Fy),(6,zP f14),(7,.slice rR zs.length pz),(8,zP b8),(9,.bool zz.2.1),(10,zI (i:Int)),(31,zI (K.before.length:Int)),(32,zI (i:Int)),(40,zI (K.after.length:Int)),(41,zI (zz.1:Int))]) (fun zz=>[.b b8 (.cells ⟨[zI ((aE zs).c 0 0),zI ((aE zs).c 0 1),zI ((aE zs).c 0 2),zI ((aE zs).c 0 3),zI ((aE zs).c 1 0),zI ((aE zs).c 1 1),zI ((aE zs).c 1 2),zI ((aE zs).c 1 3),zI ((aE zs).c 2 0),zI ((aE zs).c 2 1),zI ((aE zs).c 2 2),zI ((aE zs).c 2 3),zI ((aE zs).c 3 0),zI ((aE zs).c 3 1),zI ((aE zs).c 3 2),zI ((aE zs).c 3 3)]⟩ 122 (0,0)),.b b1 (.cells ⟨[v0,v1,.slice fa 0 fc,v3,v4,v5,v6,v7,zI K.gone,zI K.new,zI K.af,vb]⟩ 40 (0,0)),.l fr]) (fun zz=>zz.1≤K.after.length∧(⟨zz.2.1,zz.2.2.1,zz.2.2.2.1,zz.2.2.2.2⟩:xe)=(BA (aE zs) ((zs.length:Nat):Int) i (acu (aE zs) ((zs.length:Nat):Int) K.after.length i) zz.1)) (fun zz=>K.after.length-zz.1) (⟨0,qf,qa,qb,qw⟩) ⟨by dsimp only;omega,hI.2⟩ [0,1,2] ?_
  rintro⟨j,qf,qa,qb,qw⟩ hJ K2 mr rest
  dsimp only at hJ
  refine zD 5<|zJ 42 ((j:Int) <(K.after.length:Int)) (fun h7=>?_) fun h7=>?_
  ·
   refine zD 10 ?_
   have iJ:=It zs i j
   refine zD 3<|LV (b:=b8) (off:=0) (len:=4) (sz:=4) (i:Int) (by omega)<|LV (b:=b8) (off:=0+(i:Int).toNat*4) (len:=4) (sz:=1) (j:Int) (by omega)<|pg (b:=b8) (off:=0+(i:Int).toNat*4+(j:Int).toNat*1) (m:=1) (vs:=[zI ((aE zs).c i j)]) 0 [0] [(b8,.cells ⟨[zI ((aE zs).c 0 0),zI ((aE zs).c 0 1),zI ((aE zs).c 0 2),zI ((aE zs).c 0 3),zI ((aE zs).c 1 0),zI ((aE zs).c 1 1),zI ((aE zs).c 1 2),zI ((aE zs).c 1 3),zI ((aE zs).c 2 0),zI ((aE zs).c 2 1),zI ((aE zs).c 2 2),zI ((aE zs).c 2 3),zI ((aE zs).c 3 0),zI ((aE zs).c 3 1),zI ((aE zs).c 3 2),zI ((aE zs).c 3 3)]⟩ 122 (0,0))] (fun s _ hZ=>sR (hZ _ (.head _)) (Fh (m:=aE zs) (by omega) (by omega)))<|zD 4<|LV (b:=b8) (off:=0) (len:=4) (sz:=4) (i:Int) (by omega)<|LV (b:=b8) (off:=0+(i:Int).toNat*4) (len:=4) (sz:=1) (j:Int) (by omega)<|pg (b:=b8) (off:=0+(i:Int).toNat*4+(j:Int).toNat*1) (m:=1) (vs:=[zI ((aE zs).c i j)]) 0 [0] [(b8,.cells ⟨[zI ((aE zs).c 0 0),zI ((aE zs).c 0 1),zI ((aE zs).c 0 2),zI ((aE zs).c 0 3),zI ((aE zs).c 1 0),zI ((aE zs).c 1 1),zI ((aE zs).c 1 2),zI ((aE zs).c 1 3),zI ((aE zs).c 2 0),zI ((aE zs).c 2 1),zI ((aE zs).c 2 2),zI ((aE zs).c 2 3),zI ((aE zs).c 3 0),zI ((aE zs).c 3 1),zI ((aE zs).c 3 2),zI ((aE zs).c 3 3)]⟩ 122 (0,0))] (fun s _ hZ=>sR (hZ _ (.head _)) (Fh (m:=aE zs) (by omega) (by omega)))<|ja ((zs.length:Int)-((aE zs).c i j)) (by omega)<|jmx (k:= .i64) (a:=((aE zs).c i j)) (b:=((zs.length:Int)-((aE zs).c i j)))<|zD 8<|zJ 60 ((max ((aE zs).c i j) ((zs.length:Int)-((aE zs).c i j))) <qw) (fun h8=>?_) fun h8=>?_
   ·
    refine zD 11<|ja ((j:Int)+1) (by omega)<|zD 2<|bI mr (⟨j+1,true,(i:Int),(j:Int),(max ((aE zs).c i j) ((zs.length:Int)-((aE zs).c i j)))⟩) ⟨by dsimp only;omega,azf hJ.2 (by assumption)⟩ (by dsimp only;omega) [0,1,2] (Sub.refl _)
   refine zD 3<|ja ((j:Int)+1) (by omega)<|zD 2<|bI mr (⟨j+1,qf,qa,qb,qw⟩) ⟨by dsimp only;omega,akR hJ.2 (by assumption)⟩ (by dsimp only;omega) [0,1,2] (Sub.refl _)
  refine zD 3<|ja ((i:Int)+1) (by omega)<|zD 2<|bI bH (⟨i+1,qf,qa,qb,qw⟩) ⟨by dsimp only;omega,by have:=hJ.2;rw[show j=K.after.length by omega] at this;exact this⟩ (by dsimp only;omega) [0,1,2] (Sub.refl _)
 refine zD 8<|js 67 (!qf) (fun h9=>?_) (fun h9=>?_)
 ·
  try simp only[zB] at h9
  refine zD 9<|O8 qC.a.a (.tuple ⟨[zI 0,zI 0,zI 0,zI 11]⟩) [2] [] (bZ.trans mw) ⟨zs,_,_,_,_,hz,rfl,rfl,.inr ⟨pq.1,by have:=hI.2;rw[show i=K.before.length by omega] at this;rw[←this];simp only[WN];cases qf<;>first|rfl|contradiction|simp_all⟩⟩
 try simp only[zB] at h9
 refine zD 13<|O8 qC.a.a (.tuple ⟨[zI qa,zI qb,zI qw,zI 0]⟩) [2] [] (bZ.trans mw) ⟨zs,_,_,_,_,hz,rfl,rfl,.inr ⟨pq.1,by have:=hI.2;rw[show i=K.before.length by omega] at this;rw[←this];simp only[WN];cases qf<;>first|rfl|contradiction|simp_all⟩⟩
def Jw:Value→Int
 | .int _ n=>n
 |_=>0
def T5(f:P4→Int)(F:List (P4×Value)):Int:=(F.map fun x=>f x.1*Jw x.2).sum
def pk(x:ah):P4:=(x.w0,x.w1,x.w2,x.w3)
def ad6(f:P4→Int)(zs:List ah):Int:=(zs.map fun x=>f (pk x)).sum
structure CF(F:List (P4×Value))(zs:List ah):Prop where
 sum:∀f,T5 f F=ad6 f zs
 val:∀x∈F,∃n,x.2= zI n∧0≤n∧n≤zs.length
 key:∀x∈F,∃z∈zs,x.1=pk z
theorem CF.nil:CF [] []:=⟨fun _=>rfl,by simp,by simp⟩
theorem Ge(g:κ×Value→Int):∀ {F:List (κ×Value)} {i:Nat} {k:κ} {u v:Value},F[i]?=some (k,u)→((tM k v F i).map g).sum=(F.map g).sum-g (k,u)+g (k,v)
 | [],_,_,_,_,h=>by simp at h
 |x::F,0,k,u,v,h=>by simp at h;subst h;simp only[tM,List.map_cons,List.sum_cons];omega
 |x::F,i+1,k,u,v,h=>by
  simp at h
  have:=Ge g (v:=v) h
  simp only[tM,List.map_cons,List.sum_cons];omega
theorem vY:∀ {F:List (κ×Value)} {i:Nat} {k:κ} {v:Value} {x:κ×Value},x∈tM k v F i→x=(k,v)∨x∈F
 | [],_,_,_,_,h=>by cases h
 |y::F,0,k,v,x,h=>by
  rcases List.mem_cons.1 h with h|h
  ·exact .inl h
  exact .inr (List.mem_cons_of_mem _ h)
 |y::F,i+1,k,v,x,h=>by
  rcases List.mem_cons.1 h with h|h
  ·exact .inr (by rw[h];exact List.mem_cons_self)
  exact(vY h).imp id (List.mem_cons_of_mem _)
theorem CF.look{F:List (P4×Value)}{zs:List ah}(h:CF F zs)(k:P4):∃n,Q1 (zI 0) false k F= zI n∧0≤n∧n≤zs.length:=by
 simp only[Q1,lkM]
 cases hf:sB k F 0 with
 |none=>exact⟨0,rfl,by omega,by omega⟩
 |some u=>
  obtain⟨j,u⟩:=u
  have:=(qz hf).2
  exact h.val _ (zL this)
theorem CF.upd{F F1:List (P4×Value)}{zs:List ah}{x:ah}(h:CF F zs)(h1:((∃u,sB (pk x) F 0=some u)∧F1=F)∨(sB (pk x) F 0=none∧F1=F++[(pk x,zI 0)]))(hl:Q1 (zI 0) false (pk x) F= zI n)(hn:0≤n∧n≤zs.length):CF (mg (pk x) (zI (n+1)) F1) (zs++[x]):=by
 have hz (f:P4→Int):ad6 f (zs++[x])=ad6 f zs+f (pk x):=by simp[ad6]
 rcases h1 with ⟨⟨⟨j,u⟩,hf⟩,rfl⟩| ⟨hf,rfl⟩
 ·have hu:=qz hf
  simp only[Nat.sub_zero] at hu
  have qO:u= zI n:=by simpa [Q1,lkM,hf] using hl
  subst qO
  simp only[mg,hf]
  refine⟨fun f=>?_,fun y hy=>?_,fun y hy=>?_⟩
  ·rw[hz,←h.sum,T5,Ge _ hu.2,T5]
   simp only[Jw,Int.mul_add,Int.mul_one];omega
  ·rcases vY hy with rfl|hy
   ·exact⟨n+1,rfl,by omega,by simp;omega⟩
   obtain⟨m,h1,h2⟩:=h.val _ hy
   exact⟨m,h1,by omega,by simp;omega⟩
  rcases vY hy with rfl|hy
  ·exact⟨x,by simp,rfl⟩
  obtain⟨z,h1,h2⟩:=h.key _ hy
  exact⟨z,by simp[h1],h2⟩
 have qO:n=0:=by
  have:(Value.int .i64 0)= zI n:=by simpa [Q1,lkM,hf] using hl
  cases this;rfl
 subst qO
 have hs:mg (pk x) (zI (0+1)) (F++[(pk x,zI 0)])=tM (pk x) (zI (0+1)) (F++[(pk x,zI 0)]) (0+F.length):=by
  simp only[mg,Bg (v:= zI 0) hf]
 have hg:(F++[(pk x,Value.int .i64 0)])[0+F.length]?=some (pk x,zI 0):=by simp
 rw[hs]
 refine⟨fun f=>?_,fun y hy=>?_,fun y hy=>?_⟩
 ·rw[hz,←h.sum,T5,Ge _ hg,T5]
  simp[Jw]
 ·rcases vY hy with rfl|hy
  ·exact⟨0+1,rfl,by omega,by simp;omega⟩
  rcases List.mem_append.1 hy with hy|hy
  ·obtain⟨m,h1,h2⟩:=h.val _ hy
   exact⟨m,h1,by omega,by simp;omega⟩
  rw[List.mem_singleton] at hy;subst hy
  exact⟨0,rfl,by omega,by omega⟩
 rcases vY hy with rfl|hy
 ·exact⟨x,by simp,rfl⟩
 rcases List.mem_append.1 hy with hy|hy
 ·obtain⟨z,h1,h2⟩:=h.key _ hy
  exact⟨z,by simp[h1],h2⟩
 rw[List.mem_singleton] at hy;subst hy
 exact⟨x,by simp,rfl⟩
def fV(i j:Nat):Value→Int
 | .agg ⟨l⟩=>(match l[i]? with
  |some (.int _ n)=>if n=(j:Int)+1 then 1 else 0
  |_=>0)
 |_=>0
def sM(i j:Nat)(l:List MapEntry):Int:=(l.map fun e=>fV i j e.key*Jw e.val).sum
theorem ad7{F:List (P4×Value)}{es:Array MapEntry}(h:tC Ja F es ck)(i j:Nat):sM i j es.toList=T5 (fun k=>fV i j (Ja k)) F:=by
 have h1:=congrArg (List.map fun p:Value×Value=>fV i j p.1*Jw p.2) h.1
 simp only[List.map_map] at h1
 unfold sM T5
 exact congrArg List.sum h1
theorem P0(i j:Nat):∀ {l:List MapEntry} {e:MapEntry},(l.map (·.born)).Nodup→e∈l→sM i j l=fV i j e.key*Jw e.val+sM i j (l.filter fun x=> !decide (x.born=e.born))
 | [],_,_,h=>by cases h
 |x::l,e,hn,h=>by
  simp only[List.map_cons,List.nodup_cons] at hn
  rcases List.mem_cons.1 h with rfl|h
  ·have:l.filter (fun y=> !decide (y.born=e.born))=l:=by
    refine List.filter_eq_self.2 fun y hy=>?_
    have:y.born≠e.born:=fun h=>hn.1 (h▸List.mem_map_of_mem hy)
    simp[this]
   rw[List.filter_cons_of_neg (by simp),this];rfl
  have dL:x.born≠e.born:=fun k=>hn.1 (k▸List.mem_map_of_mem h)
  rw[List.filter_cons_of_pos (by simp[dL])]
  have:=P0 i j hn.2 h
  simp only[sM,List.map_cons,List.sum_cons] at this ⊢
  omega
theorem US(es:Array MapEntry)(seen:List Nat)(b:Nat):cN es (seen++[b])=(cN es seen).filter fun x=> !decide (x.born=b):=by
 simp only[cN,List.filter_filter]
 refine List.filter_congr fun x _=>?_
 simp only[List.contains_eq_mem,List.mem_append,List.mem_singleton,Bool.decide_or,Bool.not_or]
 rw[Bool.and_comm]
theorem Kw{F:List (P4×Value)}{es:Array MapEntry}(h:tC Ja F es ck){e:MapEntry}(he:e∈cN es seen)(i j:Nat):sM i j (cN es seen)=fV i j e.key*Jw e.val+sM i j (cN es (seen++[e.born])):=by
 rw[US]
 exact P0 i j ((List.filter_sublist.map _).nodup h.2.1) he
theorem asd(i j:Nat)(v:Value):fV i j v=0∨fV i j v=1:=by
 unfold fV
 split<;>try exact .inl rfl
 split<;>try exact .inl rfl
 split<;>simp
theorem PZ{i j:Nat}:∀ {l:List MapEntry},(∀e∈l,0≤Jw e.val)→0≤sM i j l
 | [],_=>Int.le_refl _
 |x::l,h=>by
  have h1:=PZ (i:=i) (j:=j) (l:=l) fun e he=>h e (List.mem_cons_of_mem _ he)
  have h2:=h x List.mem_cons_self
  simp only[sM,List.map_cons,List.sum_cons] at h1 ⊢
  rcases asd i j x.key with h3|h3<;>rw[h3]<;>omega
theorem amt{F:List (P4×Value)}{zs:List ah}(h:CF F zs){es:Array MapEntry}(hE:tC Ja F es ck):∀e∈cN es seen,0≤Jw e.val:=fun e he=>by
 have h1:e∈es.toList:=(List.mem_filter.1 he).1
 have h2:(e.key,e.val)∈es.toList.map (fun e=>(e.key,e.val)):=List.mem_map_of_mem (f:=fun e:MapEntry=>(e.key,e.val)) h1
 rw[hE.1] at h2
 obtain⟨y,h3,h4⟩:=List.mem_map.1 h2
 obtain⟨n,h5,h6,_⟩:=h.val _ h3
 simp only[Prod.mk.injEq] at h4
 rw[←h4.2,h5];exact h6
theorem Zn(x:ah)(j:Nat)(hi:i <4):fV i j (Ja (pk x))=if pI x i=(j:Int)+1 then 1 else 0:=by
 rcases Aa hi with rfl|rfl|rfl|rfl<;>rfl
theorem Xr(p:α→Prop)[DecidablePred p]:∀l:List α,(l.map fun x=>if p x then (1:Int) else 0).sum=((l.filter fun x=>decide (p x)).length:Int)
 | []=>rfl
 |x::l=>by
  rw[List.map_cons,List.sum_cons,Xr p l]
  by_cases h:p x
  ·rw[if_pos h,List.filter_cons_of_pos (by simpa using h),List.length_cons];omega
  rw[if_neg h,List.filter_cons_of_neg (by simpa using h)];omega
theorem CF.total{F:List (P4×Value)}{zs:List ah}(h:CF F zs){es:Array MapEntry}(hE:tC Ja F es ck)(j:Nat)(hi:i <4):sM i j (cN es [])=(aE zs).c i j:=by
 rw[Cv,ad7 hE,h.sum,ad6]
 simp only[Zn _ j hi]
 exact Xr (fun x=>pI x i=(j:Int)+1) zs
theorem ade{z:ah}(h:(z.w0==0&&(z.w1==0&&(z.w2==0&&(z.w3==0&&true))))=true)(i:Nat):pI z i=0:=by
 simp only[Bool.and_eq_true,beq_iff_eq] at h
 match i with
 |0=>exact h.1
 |1=>exact h.2.1
 |2=>exact h.2.2.1
 |_+3=>exact h.2.2.2.1
def E3(m:e8)(S T:Nat→Nat→Int):Prop:=∀i j,i <4→j <4→0≤m.c i j∧m.c i j+S i j=T i j
theorem E3.init{F:List (P4×Value)}{zs:List ah}(h:CF F zs){es:Array MapEntry}(hE:tC Ja F es ck):E3 ⟨fun _ _=>0⟩ (fun i j=>sM i j (cN es [])) (aE zs).c:=fun i j hi _=>⟨Int.le_refl _,by show 0+sM i j (cN es [])=_;rw[h.total hE j hi];exact Int.zero_add _⟩
def inS(z:ah)(n:Int)(q:Nat)(R:Nat→Nat→Int):Nat→Nat→Int:=fun i j=>(if i <q then 0 else fV i j (Ja (pk z))*n)+R i j
theorem E3.zero{m:e8}{z:ah}{n:Int}{es:Array MapEntry}{ck:Nat}{F:List (P4×Value)}{T:Nat→Nat→Int}{seen:List Nat}{e:MapEntry}(hE:tC Ja F es ck)(he:e∈cN es seen)(hk:e.key=Ja (pk z))(hz:∀i,pI z i=0)(h:E3 m (fun i j=>sM i j (cN es seen)) T):E3 m (fun i j=>sM i j (cN es (seen++[e.born]))) T:=fun i j hi hj=>by
 have h1:=h i j hi hj
 have h2:=Kw hE he i j
 rw[hk,Zn z j hi,if_neg (by rw[hz];omega),Int.zero_mul,Int.zero_add] at h2
 dsimp only at h1 ⊢
 rw[h2] at h1;exact h1
theorem E3.open_{m:e8}{z:ah}{es:Array MapEntry}{F:List (P4×Value)}{e:MapEntry}(hE:tC Ja F es ck)(he:e∈cN es seen)(hk:e.key=Ja (pk z))(hv:e.val= zI n)(h:E3 m (fun i j=>sM i j (cN es seen)) T):E3 m (inS z n 0 fun i j=>sM i j (cN es (seen++[e.born]))) T:=fun i j hi hj=>by
 have h1:=h i j hi hj
 have h2:=Kw hE he i j
 rw[hk,hv] at h2
 simp only[Jw] at h2
 simp only[inS,if_neg (Nat.not_lt_zero i)]
 dsimp only at h1
 rw[h2] at h1;exact h1
theorem E3.close{m:e8}{z:ah}(h:E3 m (inS z n 4 R) T):E3 m R T:=fun i j hi hj=>by
 have h1:=h i j hi hj
 simp only[inS,if_pos hi,Int.zero_add] at h1
 exact h1
theorem E3.skip{m:e8}{z:ah}(h:E3 m (inS z n q R) T)(hq:¬pI z q>0):E3 m (inS z n (q+1) R) T:=fun i j hi hj=>by
 have h1:=h i j hi hj
 simp only[inS] at h1 ⊢
 by_cases e:i=q
 ·subst e
  rw[if_neg (Nat.lt_irrefl _),Zn z j hi,if_neg (by omega),Int.zero_mul] at h1
  rw[if_pos (Nat.lt_succ_self _)];exact h1
 by_cases e2:i <q
 ·rw[if_pos e2] at h1;rw[if_pos (by omega)];exact h1
 rw[if_neg e2] at h1;rw[if_neg (by omega)];exact h1
theorem E3.add{m:e8}{z:ah}(h:E3 m (inS z n q R) T)(hn:0≤n)(hq:pI z q>0)(hq4:q <4):E3 (rJ m q (pI z q-1).toNat (m.c q (pI z q-1).toNat+n)) (inS z n (q+1) R) T:=fun i j hi hj=>by
 have h1:=h i j hi hj
 simp only[inS,rJ] at h1 ⊢
 by_cases e:i=q
 ·subst e
  rw[if_neg (Nat.lt_irrefl _),Zn z j hi] at h1
  rw[if_pos (Nat.lt_succ_self _)]
  by_cases e2:j=(pI z i-1).toNat
  ·rw[if_pos (by omega)] at h1
   rw[if_pos ⟨rfl,e2⟩,←e2];omega
  rw[if_neg (by omega)] at h1
  rw[if_neg (by omega)];omega
 rw[if_neg (c:=i=q∧j=(pI z q-1).toNat) (by omega)]
 by_cases e2:i <q
 ·rw[if_pos e2] at h1;rw[if_pos (by omega)];exact h1
 rw[if_neg e2] at h1;rw[if_neg (by omega)];exact h1
theorem E3.bound{m:e8}{z:ah}(h:E3 m (inS z n q R) T)(hR:∀i j,0≤R i j)(hn:0≤n)(hi:i <4)(hj:j <4):0≤m.c i j∧m.c i j≤T i j:=by
 have h1:=h i j hi hj
 have h2:=hR i j
 simp only[inS] at h1
 split at h1
 ·omega
 rcases asd i j (Ja (pk z)) with h3|h3<;>rw[h3] at h1<;>omega
theorem E3.fin{m:e8}{zs:List ah}{es:Array MapEntry}(h:E3 m (fun i j=>sM i j (cN es seen)) (aE zs).c)(he:cN es seen=[]):zp m=zp (aE zs):=by
 have k (i j:Nat) (hi:i <4) (hj:j <4):m.c i j=(aE zs).c i j:=by
  have:=(h i j hi hj).2
  rw[he] at this
  simpa [sM] using this
 simp only[zp,k 0 0 (by decide) (by decide),k 0 1 (by decide) (by decide),k 0 2 (by decide) (by decide),k 0 3 (by decide) (by decide),k 1 0 (by decide) (by decide),k 1 1 (by decide) (by decide),k 1 2 (by decide) (by decide),k 1 3 (by decide) (by decide),k 2 0 (by decide) (by decide),k 2 1 (by decide) (by decide),k 2 2 (by decide) (by decide),k 2 3 (by decide) (by decide),k 3 0 (by decide) (by decide),k 3 1 (by decide) (by decide),k 3 2 (by decide) (by decide),k 3 3 (by decide) (by decide)]
theorem auz{z:ah}(h:q <4):nth [zI z.w0,zI z.w1,zI z.w2,zI z.w3] ((q:Int).toNat*1)=some (zI (pI z q)):=by
 rcases Aa h with rfl|rfl|rfl|rfl<;>rfl
theorem afZ{m:e8}{a:Nat}{j:Int}(h:a <4)(k:0≤j∧j <4):nth (zp m) (0+(a:Int).toNat*4+j.toNat*1)=some (zI (m.c a j.toNat)):=by
 obtain⟨b,rfl⟩:=Int.eq_ofNat_of_zero_le k.1
 exact Fh h (by omega)
theorem afY{m:e8}{a:Nat}{j v:Int}(h:a <4)(k:0≤j∧j <4):dB (zp m) (0+(a:Int).toNat*4+j.toNat*1) [zI v]=zp (rJ m a j.toNat v):=by
 obtain⟨b,rfl⟩:=Int.eq_ofNat_of_zero_le k.1
 exact anG h (by omega)
theorem af0{m:e8}{a:Nat}{j:Int}{v:Value}(h:a <4)(k:0≤j∧j <4):Nat.ble ((0+(a:Int).toNat*4+j.toNat*1)+[v].length) (zp m).length=true:=by
 obtain⟨b,rfl⟩:=Int.eq_ofNat_of_zero_le k.1
 exact anH h (by omega)
theorem aUt(z:ah):EqV zT 126 (v4 z.w0 z.w1 z.w2 z.w3) (v4 0 0 0 0) (z.w0==0&&(z.w1==0&&(z.w2==0&&(z.w3==0&&true)))):=Om (aIq (dep:=9998) (m8 Tryz.typeInfo126 Tryz.underlying126 rfl rfl rfl rfl rfl rfl) mz _ _ _ _ _ _ _ _)
theorem aOJ:n9 zT 126:=by unfold n9;kernel_rfl
theorem QZ{F F1:List (P4×Value)}{k:P4}(h1:((∃u,sB k F 0=some u)∧F1=F)∨(sB k F 0=none∧F1=F++[(k,zI 0)]))(hl:Q1 (zI 0) false k F= zI n):Q1 (zI 0) false k F1= zI n:=by
 rcases h1 with ⟨_,rfl⟩| ⟨hf,rfl⟩
 ·exact hl
 simp only[Q1,lkM,Bg (v:= zI 0) hf]
 simpa [Q1,lkM,hf] using hl
theorem agV{v:Value}{zs:List ah}(hl:bD ro v 8 cE zs)(hn:zs.length≤100000)(hp:∀x∈zs,∀q,0≤pI x q∧pI x q≤4):dO zT 54 [v] ro [] (fun r Y=>r= .agg ⟨zp (aE zs)⟩∧Y=[]):=by
 obtain⟨fA,rQ,rP,eP,rfl,tQ,lJ,mE⟩:=hl
 refine zE<|zD 2<|jn fun b2=>zD 3<|jmk Ja fun Gu L11 ah2=>zD 10<|dP [1,1,0,1,0,0] [] (fun(zz:Nat×(List (P4×Value))×Cells)=>[(2,zP b2),(3,(.map (some Gu))),(12,.slice fA zs.length eP),(13,zI (zs.length:Int)),(14,zI (zz.1:Int))]) (fun(zz:Nat×(List (P4×Value))×Cells)=>[.l zz.2.2,.b b2 (.cells ⟨[zI 0,zI 0,zI 0,zI 0,zI 0,zI 0,zI 0,zI 0,zI 0,zI 0,zI 0,zI 0,zI 0,zI 0,zI 0,zI 0]⟩ 122 (0,0))]) (fun(zz:Nat×(List (P4×Value))×Cells)=>zz.1≤zs.length∧jQ Gu Ja zz.2.1 zz.2.2∧CF zz.2.1 (zs.take zz.1)) (fun(zz:Nat×(List (P4×Value))×Cells)=>zs.length-zz.1) (⟨0,[],L11⟩) ⟨by dsimp only;omega,ah2,CF.nil⟩ [0,1] ?_
 rintro⟨k,F,LM⟩ hI K1 bH rest
 dsimp only at hI
 refine zD 5<|zJ 15 ((k:Int) <(zs.length:Int)) (fun h1=>?_) fun h1=>?_
 ·
  refine zD 6 ?_
  obtain⟨tE,iK⟩:=zG zs k
  refine ek eP 8 lJ iK<|jl 0 (mE _ _ iK)<|jn fun b5=>jd 2 [0] ?_
  obtain⟨nk,hlk,hnk⟩:=hI.2.2.look (pk tE)
  have Tq:(zs.take k).length=k:=by rw[List.length_take];omega
  refine jd 4 [0]<|Jb [3,5] ⟨fun z2 t3 qu=>?_,fun z5 t6 VM=>?_,trivial⟩
  ·
   refine jlu (kv:=Ja) (F:=F) (r:=Gu) (K:=126) (pk tE) (zI 0) false [1] LM agA (fun s _ hZ=>hI.2.1.has hZ)<|eH qu [0,1,2]<|jw 3 (zI nk) hlk<|ja (nk+1) (by omega)<|aV 5 fun TD TZ VL=>jme (kv:=Ja) (F:=F) (r:=Gu) (L:=LM) 1 (pk tE) agA mz hI.2.1 fun Fm4 bm4 cm4 Lm4 bfi hm4=>gM VL []<|aV 6 fun TB TY R9=>zD 1<|eH R9 [0,1,2]<|aV 7 fun Dj Ds uv=>jes 0 (zI (nk+1)) hm4 fun Lm7 hm7=>gq uv<|zD 2<|ja ((k:Int)+1) (by omega)<|zD 2<|bI bH (⟨k+1,_,Lm7⟩) ⟨by dsimp only;omega,hm7,by dsimp only;rw[gE iK];exact hI.2.2.upd (by assumption) hlk hnk⟩ (by dsimp only;omega) [0,2] (Sub.refl _)
  refine jme (kv:=Ja) (F:=F) (r:=Gu) (L:=LM) 1 (pk tE) agA mz hI.2.1 fun Fm9 bm9 cm9 Lm9 aHx hm9=>gq VM<|Jb [3,6] ⟨fun z11 t12 VY=>?_,fun z14 t15 J6=>?_,trivial⟩
  ·
   refine jlu (kv:=Ja) (F:=Fm9) (r:=Gu) (K:=126) (pk tE) (zI 0) false [0] Lm9 agA (fun s _ hZ=>hm9.own.has hZ)<|gq VY<|jw 3 (zI nk) (QZ aHx hlk)<|ja (nk+1) (by omega)<|aV 6 fun adb adX HW=>zD 1<|eH HW [0,1,2]<|aV 7 fun aqf aqz VX=>jes 0 (zI (nk+1)) hm9 fun aVx aGg=>gq VX<|zD 2<|ja ((k:Int)+1) (by omega)<|zD 2<|bI bH (⟨k+1,_,aVx⟩) ⟨by dsimp only;omega,aGg,by dsimp only;rw[gE iK];exact hI.2.2.upd (by assumption) hlk hnk⟩ (by dsimp only;omega) [0,2] (Sub.refl _)
  refine zD 1<|gq J6<|aV 3 fun aqe aqy VW=>jlu (kv:=Ja) (F:=Fm9) (r:=Gu) (K:=126) (pk tE) (zI 0) false [0] Lm9 agA (fun s _ hZ=>hm9.own.has hZ)<|gq VW<|jw 3 (zI nk) (QZ aHx hlk)<|ja (nk+1) (by omega)<|aV 7 fun aAV aBQ VV=>jes 0 (zI (nk+1)) hm9 fun aVw abE=>gq VV<|zD 2<|ja ((k:Int)+1) (by omega)<|zD 2<|bI bH (⟨k+1,_,aVw⟩) ⟨by dsimp only;omega,abE,by dsimp only;rw[gE iK];exact hI.2.2.upd (by assumption) hlk hnk⟩ (by dsimp only;omega) [0,2] (Sub.refl _)
 refine zD 4<|jn fun b6=>jf [1] LM (fun ba9 awg axg=>?_)
 have hCF:CF F zs:=by have:=hI.2.2;rwa[show k=zs.length by omega,List.take_length] at this
 obtain⟨BS,Js,rfl,hE1⟩:=hI.2.1
 refine zD 5<|jmR (axg _ (.head _)) fun r27=>jg 0 [.b r27 (uQ Gu Js [])]<|zD 2<|dP [1,1,1,1,0,1,0,0] [] (fun(zz:(List Nat)×e8)=>[(2,zP b2),(6,zP b6),(27,zP r27)]) (fun zz=>[.b r27 (uQ Gu Js zz.1),.b b6 (.cells ⟨[zI (zz.2.c 0 0),zI (zz.2.c 0 1),zI (zz.2.c 0 2),zI (zz.2.c 0 3),zI (zz.2.c 1 0),zI (zz.2.c 1 1),zI (zz.2.c 1 2),zI (zz.2.c 1 3),zI (zz.2.c 2 0),zI (zz.2.c 2 1),zI (zz.2.c 2 2),zI (zz.2.c 2 3),zI (zz.2.c 3 0),zI (zz.2.c 3 1),zI (zz.2.c 3 2),zI (zz.2.c 3 3)]⟩ 122 (0,0)),.b b2 (.cells ⟨[zI 0,zI 0,zI 0,zI 0,zI 0,zI 0,zI 0,zI 0,zI 0,zI 0,zI 0,zI 0,zI 0,zI 0,zI 0,zI 0]⟩ 122 (0,0))]) (fun zz=>E3 zz.2 (fun i j=>sM i j (cN BS zz.1)) (aE zs).c) (fun zz=>(cN BS zz.1).length) (⟨[],⟨fun _ _=>0⟩⟩) (E3.init hCF hE1) [0,1,2] ?_
 rintro⟨seen,m⟩ hI K21 ao4 rest
 dsimp only at hI
 refine zD 2<|jmN (it:=r27) (kv:=Ja) (seen:=seen) 0 (axg _ (.head _)) hE1 (fun k28 v28 e28 aGK abJ axe aFk=>?_) (fun avL=>?_)
 ·
  obtain⟨GU,arE,aF7⟩:=hCF.val _ aGK
  obtain⟨kP,avL,hkz⟩:=hCF.key _ aGK
  dsimp only at arE hkz
  subst arE
  subst hkz
  have hpz:=hp kP avL
  have cO:=G3 abJ
  refine jg 0 [.b r27 (uQ Gu Js (seen++[e28.born]))]<|zD 8<|jmE (it:=r27) 0 (axg _ (.head _)) hE1 abJ axe aFk<|jg 0 [.b r27 (uQ Gu Js (seen++[e28.born]))]<|zD 2<|jn fun b7=>jd 8 [0,0]<|jeq aOJ (aUt kP)<|zD 1<|js 35 (kP.w0==0&&(kP.w1==0&&(kP.w2==0&&(kP.w3==0&&true)))) (fun V1=>?_) (fun V1=>?_)
  ·
   refine zD 2<|bI ao4 (⟨(seen++[e28.born]),m⟩) (hI.zero (n:=0) hE1 abJ axe (ade (by assumption))) cO [1,2,3] (Sub.refl _)
  refine jd 8 [0]<|dP [1,1,1,1,0,1,0,0,1,1,0,1,1,1,0,0] [K21] (fun(zz:Nat×e8)=>[(2,zP b2),(6,zP b6),(8,zI GU),(27,zP r27),(36,.agg ⟨[zI kP.w0,zI kP.w1,zI kP.w2,zI kP.w3]⟩),(37,zI (zz.1:Int))]) (fun zz=>[.b r27 (uQ Gu Js (seen++[e28.born])),.b b6 (.cells ⟨[zI (zz.2.c 0 0),zI (zz.2.c 0 1),zI (zz.2.c 0 2),zI (zz.2.c 0 3),zI (zz.2.c 1 0),zI (zz.2.c 1 1),zI (zz.2.c 1 2),zI (zz.2.c 1 3),zI (zz.2.c 2 0),zI (zz.2.c 2 1),zI (zz.2.c 2 2),zI (zz.2.c 2 3),zI (zz.2.c 3 0),zI (zz.2.c 3 1),zI (zz.2.c 3 2),zI (zz.2.c 3 3)]⟩ 122 (0,0)),.b b7 (.cells ⟨[zI kP.w0,zI kP.w1,zI kP.w2,zI kP.w3]⟩ 126 (0,0)),.b b2 (.cells ⟨[zI 0,zI 0,zI 0,zI 0,zI 0,zI 0,zI 0,zI 0,zI 0,zI 0,zI 0,zI 0,zI 0,zI 0,zI 0,zI 0]⟩ 122 (0,0))]) (fun zz=>zz.1≤4∧E3 zz.2 (inS kP GU zz.1 (fun i j=>sM i j (cN BS (seen++[e28.born])))) (aE zs).c) (fun zz=>4-zz.1) (⟨0,m⟩) ⟨by dsimp only;omega,hI.open_ hE1 abJ axe aFk⟩ [1,2,0,3] ?_
  rintro⟨q,m⟩ hJ K22 aHs rest
  dsimp only at hJ
  refine zD 5<|zJ 38 ((q:Int) <4) (fun Mh=>?_) fun Mh=>?_
  ·
   refine zD 7<|jai (l:=[zI kP.w0,zI kP.w1,zI kP.w2,zI kP.w3]) (q:Int) 4 1 false (by omega) (v:= zI (pI kP q)) (show nth [_,_,_,_] _=_ from auz (by omega))<|zD 8<|zJ 42 ((pI kP q)>0) (fun Ai=>?_) fun Ai=>?_
   ·
    refine zD 4<|ja ((pI kP q)-1) (by have:=hpz q;omega) ?_
    refine LV (b:=b6) (off:=0) (len:=4) (sz:=4) (q:Int) (by omega)<|LV (b:=b6) (off:=0+(q:Int).toNat*4) (len:=4) (sz:=1) ((pI kP q)-1) (by have:=hpz q;omega) ?_
    refine pg (b:=b6) (off:=0+(q:Int).toNat*4+((pI kP q)-1).toNat*1) (m:=1) (vs:=[zI (m.c q (pI kP q-1).toNat)]) 0 [1] [(b6,.cells ⟨[zI (m.c 0 0),zI (m.c 0 1),zI (m.c 0 2),zI (m.c 0 3),zI (m.c 1 0),zI (m.c 1 1),zI (m.c 1 2),zI (m.c 1 3),zI (m.c 2 0),zI (m.c 2 1),zI (m.c 2 2),zI (m.c 2 3),zI (m.c 3 0),zI (m.c 3 1),zI (m.c 3 2),zI (m.c 3 3)]⟩ 122 (0,0))] (fun s _ hZ=>sR (hZ _ (.head _)) (afZ (m:=m) (by omega) (by have:=hpz q;omega))) ?_
    refine zD 1<|ja ((m.c q (pI kP q-1).toNat)+GU) (by have h7:=hJ.2.bound (fun i j=>PZ (amt hCF hE1)) aF7.1 (i:=q) (j:=(pI kP q-1).toNat) (by omega) (by have:=hpz q;omega);have h8:=It zs q (pI kP q-1).toNat;omega) ?_
    refine LV (b:=b6) (off:=0) (len:=4) (sz:=4) (q:Int) (by omega)<|LV (b:=b6) (off:=0+(q:Int).toNat*4) (len:=4) (sz:=1) ((pI kP q)-1) (by have:=hpz q;omega) ?_
    refine aV 10 fun aAU aBP VU=>jsx 1 b6 (0+(q:Int).toNat*4+((pI kP q)-1).toNat*1) [zI (m.c 0 0),zI (m.c 0 1),zI (m.c 0 2),zI (m.c 0 3),zI (m.c 1 0),zI (m.c 1 1),zI (m.c 1 2),zI (m.c 1 3),zI (m.c 2 0),zI (m.c 2 1),zI (m.c 2 2),zI (m.c 2 3),zI (m.c 3 0),zI (m.c 3 1),zI (m.c 3 2),zI (m.c 3 3)] [zI ((m.c q (pI kP q-1).toNat)+GU)] 122 (by intro v hv;rw[List.mem_singleton] at hv;subst hv;rfl) (af0 (m:=m) (by omega) (by have:=hpz q;omega)) ?_
    refine jmw 0 [.b b6 (.cells ⟨[zI ((rJ m q (pI kP q-1).toNat (m.c q (pI kP q-1).toNat+GU)).c 0 0),zI ((rJ m q (pI kP q-1).toNat (m.c q (pI kP q-1).toNat+GU)).c 0 1),zI ((rJ m q (pI kP q-1).toNat (m.c q (pI kP q-1).toNat+GU)).c 0 2),zI ((rJ m q (pI kP q-1).toNat (m.c q (pI kP q-1).toNat+GU)).c 0 3),zI ((rJ m q (pI kP q-1).toNat (m.c q (pI kP q-1).toNat+GU)).c 1 0),zI ((rJ m q (pI kP q-1).toNat (m.c q (pI kP q-1).toNat+GU)).c 1 1),zI ((rJ m q (pI kP q-1).toNat (m.c q (pI kP q-1).toNat+GU)).c 1 2),zI ((rJ m q (pI kP q-1).toNat (m.c q (pI kP q-1).toNat+GU)).c 1 3),zI ((rJ m q (pI kP q-1).toNat (m.c q (pI kP q-1).toNat+GU)).c 2 0),zI ((rJ m q (pI kP q-1).toNat (m.c q (pI kP q-1).toNat+GU)).c 2 1),zI ((rJ m q (pI kP q-1).toNat (m.c q (pI kP q-1).toNat+GU)).c 2 2),zI ((rJ m q (pI kP q-1).toNat (m.c q (pI kP q-1).toNat+GU)).c 2 3),zI ((rJ m q (pI kP q-1).toNat (m.c q (pI kP q-1).toNat+GU)).c 3 0),zI ((rJ m q (pI kP q-1).toNat (m.c q (pI kP q-1).toNat+GU)).c 3 1),zI ((rJ m q (pI kP q-1).toNat (m.c q (pI kP q-1).toNat+GU)).c 3 2),zI ((rJ m q (pI kP q-1).toNat (m.c q (pI kP q-1).toNat+GU)).c 3 3)]⟩ 122 (0,0))] (L:=[(b6,.cells ⟨dB [zI (m.c 0 0),zI (m.c 0 1),zI (m.c 0 2),zI (m.c 0 3),zI (m.c 1 0),zI (m.c 1 1),zI (m.c 1 2),zI (m.c 1 3),zI (m.c 2 0),zI (m.c 2 1),zI (m.c 2 2),zI (m.c 2 3),zI (m.c 3 0),zI (m.c 3 1),zI (m.c 3 2),zI (m.c 3 3)] (0+(q:Int).toNat*4+((pI kP q)-1).toNat*1) [zI ((m.c q (pI kP q-1).toNat)+GU)]⟩ 122 (0,0))]) (by rw[afY (m:=m) (by omega) (by have:=hpz q;omega)];rfl) ?_
    refine gM VU []<|zD 2<|ja ((q:Int)+1) (by omega)<|zD 2<|bI aHs (⟨q+1,(rJ m q (pI kP q-1).toNat (m.c q (pI kP q-1).toNat+GU))⟩) ⟨by dsimp only;omega,hJ.2.add aF7.1 (by assumption) (by omega)⟩ (by dsimp only;omega) [1,0,2,3] (Sub.refl _)
   refine zD 3<|ja ((q:Int)+1) (by omega)<|zD 2<|bI aHs (⟨q+1,m⟩) ⟨by dsimp only;omega,hJ.2.skip (by assumption)⟩ (by dsimp only;omega) (zN 0 4) (Sub.refl _)
  refine zD 2<|bI ao4 (⟨(seen++[e28.born]),m⟩) (E3.close (z:=kP) (n:=GU) (by have:=hJ.2;rwa[show q=4 by omega] at this)) cO [0,1,3] (Sub.refl _)
 refine jg 0 [.b r27 (uQ Gu Js seen)]<|jd 11 [1,2]<|aL q0.a (.agg ⟨[zI (m.c 0 0),zI (m.c 0 1),zI (m.c 0 2),zI (m.c 0 3),zI (m.c 1 0),zI (m.c 1 1),zI (m.c 1 2),zI (m.c 1 3),zI (m.c 2 0),zI (m.c 2 1),zI (m.c 2 2),zI (m.c 2 3),zI (m.c 3 0),zI (m.c 3 1),zI (m.c 3 2),zI (m.c 3 3)]⟩) [2] [] [] awg ⟨_,_,rfl,rfl,by rw[←hI.fin avL],rfl⟩
theorem SL:xd:=fun hl hn hp=>agV hl hn hp
theorem Be:∀(l:List Int) (a:Int),l.foldl min a=a∨l.foldl min a∈l
 | [],_=> .inl rfl
 |y::l,a=>by
  simp only[List.foldl_cons]
  rcases Be l (min a y) with h|h
  ·rw[h]
   rcases(by omega:min a y=a∨min a y=y) with e|e
   ·exact .inl e
   rw[e];exact .inr List.mem_cons_self
  exact .inr (List.mem_cons_of_mem _ h)
theorem GW:∀ {l:List Int},l≠[]→qe l∈l
 | [],h=>absurd rfl h
 |y::l,_=>by
  show l.foldl min y∈_
  rcases Be l y with h|h
  ·rw[h];exact List.mem_cons_self
  exact List.mem_cons_of_mem _ h
theorem Lu{l m:List Int}(h:l.Perm m)(hl:l≠[]):qe l=qe m:=by
 have h1:=Fg (h.mem_iff.1 (GW hl))
 have h2:=Fg (h.mem_iff.2 (GW (fun e=>hl (by rw[e] at h;exact h.eq_nil))))
 omega
theorem H7:∀(l:List Int) (a:Int),a≤l.foldl max a∧∀x∈l,x≤l.foldl max a
 | [],a=>⟨Int.le_refl _,fun _ h=>(by cases h)⟩
 |y::l,a=>by
  obtain⟨h1,h2⟩:=H7 l (max a y)
  refine⟨by simp only[List.foldl_cons];omega,fun x hx=>?_⟩
  rcases List.mem_cons.1 hx with rfl|hx
  ·simp only[List.foldl_cons];omega
  exact h2 x hx
theorem Bf:∀(l:List Int) (a:Int),l.foldl max a=a∨l.foldl max a∈l
 | [],_=> .inl rfl
 |y::l,a=>by
  simp only[List.foldl_cons]
  rcases Bf l (max a y) with h|h
  ·rw[h]
   rcases(by omega:max a y=a∨max a y=y) with e|e
   ·exact .inl e
   rw[e];exact .inr List.mem_cons_self
  exact .inr (List.mem_cons_of_mem _ h)
theorem Yj{l:List Int}(h:x∈l):x≤vZ l:=by
 cases l with
 |nil=>cases h
 |cons y l=>
  rcases List.mem_cons.1 h with rfl|h
  ·exact(H7 l _).1
  exact(H7 l _).2 x h
theorem QV:∀ {l:List Int},l≠[]→vZ l∈l
 | [],h=>absurd rfl h
 |y::l,_=>by
  show l.foldl max y∈_
  rcases Bf l y with h|h
  ·rw[h];exact List.mem_cons_self
  exact List.mem_cons_of_mem _ h
theorem aa9{l m:List Int}(h:l.Perm m)(hl:l≠[]):vZ l=vZ m:=by
 have h1:=Yj (h.mem_iff.1 (QV hl))
 have h2:=Yj (h.mem_iff.2 (QV (fun e=>hl (by rw[e] at h;exact h.eq_nil))))
 omega
theorem Fi{β:Type}{f:α→β}{l:List α}(h:l≠[]):l.map f≠[]:=fun e=>h (List.map_eq_nil_iff.1 e)
abbrev fsT:List cu:=[⟨2,1,true⟩,⟨0,1,true⟩]
theorem cC(h:0≤n∧n≤4):jv (aU n):=ash (fs:=[]) h (by decide) (by simp) .nil
theorem cV:eE (aU n):=asg (fs:=[]) (by decide) (by simp)
theorem cCT:jv (D5 2 fsT):=ash (by decide) (by decide) (by decide) (by decide)
theorem cVT:eE (D5 2 fsT):=asg (by decide) (by decide)
theorem rT:cH (aU 2)=4:=by kernel_rfl
theorem rL:qe ((cA (aU 1) (aC (aU 1)) (fun _=>true) (cU (aU 1))).map Gg)=2:=by kernel_rfl
theorem rLn:(cA (aU 1) (aC (aU 1)) (fun _=>true) (cU (aU 1))).length=0→False:=by
 have e:Nat.beq (cA (aU 1) (aC (aU 1)) (fun _=>true) (cU (aU 1))).length 0=false:=by kernel_rfl
 intro h;rw[h] at e;cases e
theorem r1n:(cA (aU 1) (aC (aU 1)) (bM (aU 1).gone (aU 1).new (aU 1).af) (cU (aU 1))).length=0→False:=by
 have e:Nat.beq (cA (aU 1) (aC (aU 1)) (bM (aU 1).gone (aU 1).new (aU 1).af) (cU (aU 1))).length 0=false:=by kernel_rfl
 intro h;rw[h] at e;cases e
theorem r2n:(cA (aU 2) (aC (aU 2)) (bM (aU 2).gone (aU 2).new (aU 2).af) (cU (aU 2))).length=0→False:=by
 have e:Nat.beq (cA (aU 2) (aC (aU 2)) (bM (aU 2).gone (aU 2).new (aU 2).af) (cU (aU 2))).length 0=false:=by kernel_rfl
 intro h;rw[h] at e;cases e
theorem rM1:qe ((cA (aU 2) (aC (aU 2)) (bM (aU 2).gone (aU 2).new (aU 2).af) (cU (aU 2))).map fun x=>x.af)=0:=by kernel_rfl
theorem rM2:vZ ((cA (aU 2) (aC (aU 2)) (bM (aU 2).gone (aU 2).new (aU 2).af) (cU (aU 2))).map fun x=>x.af)=2:=by kernel_rfl
theorem rU:pe (aE (cA (aU 1) (aC (aU 1)) (bM (aU 1).gone (aU 1).new (aU 1).af) (cU (aU 1)))) (((cA (aU 1) (aC (aU 1)) (bM (aU 1).gone (aU 1).new (aU 1).af) (cU (aU 1))).length:Nat):Int) (aU 1).after.length (aU 1).before.length=[[0,0],[2,1]]:=by kernel_rfl
theorem rW:ML (D5 2 fsT) (cU (D5 2 fsT))=some 1:=by kernel_rfl
theorem rL1:lY 1 4=[0]:=by kernel_rfl
theorem rA:(WN (acu (aE (cA (aU 2) (aC (aU 2)) (bM (aU 2).gone (aU 2).new (aU 2).af) (cU (aU 2)))) (((cA (aU 2) (aC (aU 2)) (bM (aU 2).gone (aU 2).new (aU 2).af) (cU (aU 2))).length:Nat):Int) (aU 2).after.length (aU 2).before.length)).2.2=(2,0):=by kernel_rfl
theorem aaC(hK:fI ro l (aU 2)):Dh zT 12 [.agg ⟨l⟩] ro [] (fun r Y=>r= .tuple ⟨[zI 4,zI 0]⟩∧Y=[]):=
 (Q9 hK (cC (by decide)) cV).mono fun v X h=>⟨by rw[h.1,rT];rfl,h.2⟩
theorem aeA(hK:fI ro l (aU 1)):Dh zT 48 [.agg ⟨l⟩] ro [] (fun r Y=>r= .tuple ⟨[zI 2,zI 0]⟩∧Y=[]):=
 (an4 hK (cC (by decide)) cV).mono fun v X ⟨zs,m,e,hz,hY,hr,h⟩=>by
  rcases h with ⟨h,_⟩| ⟨h,hm,he⟩
  ·exact(rLn (by rw[←hz.length_eq,h];rfl)).elim
  exact⟨by rw[hr,hm,he,Lu (hz.map Gg) (Fi h),rL],hY⟩
theorem amS(hK:fI ro l (aU 1)):Dh zT 46 [.agg ⟨l⟩] ro [] (fun r Y=>∃v,r= .tuple ⟨[v,zI 0]⟩∧∀aG,Knows aG Y→LL aG v [[0,0],[2,1]]):=
 (avp hK cV (mC (cC (by decide))) (sj hK (cC (by decide)) cV) SL).mono fun r X ⟨zs,v,e,hz,hr,h⟩=>by
  rcases h with ⟨h,_⟩| ⟨h,he,hl⟩
  ·exact(r1n (by rw[←hz.length_eq,h];rfl)).elim
  refine⟨v,by rw[hr,he],fun aG hk=>?_⟩
  have:=hl aG hk
  rwa[Br hz,hz.length_eq,rU] at this
theorem aez(hK:fI ro l (aU 2)):Dh zT 47 [.agg ⟨l⟩] ro [] (fun r Y=>r= .tuple ⟨[.agg ⟨[zI 0,zI 2]⟩,zI 0]⟩∧Y=[]):=
 (avr hK cV (mC (cC (by decide))) (sj hK (cC (by decide)) cV)).mono fun r X ⟨zs,a,b,e,hz,hY,hr,h⟩=>by
  rcases h with ⟨h,_⟩| ⟨h,ha,hb,he⟩
  ·exact(r2n (by rw[←hz.length_eq,h];rfl)).elim
  exact⟨by rw[hr,ha,hb,he,Lu (hz.map _) (Fi h),aa9 (hz.map _) (Fi h),rM1,rM2],hY⟩
theorem atX(hK:fI ro l (aU 2)):Dh zT 50 [.agg ⟨l⟩] ro [] (fun r Y=>∃a b,r= .tuple ⟨[zI a,zI b,zI 2,zI 0]⟩∧Y=[]):=
 (aO2 hK cV (mC (cC (by decide))) (sj hK (cC (by decide)) cV) SL).mono fun r X ⟨zs,a,b,w,e,hz,hY,hr,h⟩=>by
  rcases h with ⟨h,_⟩| ⟨h,ha⟩
  ·exact(r2n (by rw[←hz.length_eq,h];rfl)).elim
  rw[Br hz,hz.length_eq] at ha
  have h2:=congrArg (fun x:Int×Int×Int×Int=>x.2.2) ha
  dsimp only at h2
  rw[rA] at h2
  cases h2
  exact⟨a,b,hr,hY⟩
theorem aey(hK:fI ro l (D5 2 fsT)):dO zT 22 [.agg ⟨l⟩] ro [] (fun r Y=>∃v,r= .tuple ⟨[v,zI 0]⟩∧ax v 1 3 cm [0] Y):=
 Fn.mono (avb hK cVT (mC cCT) (sj hK cCT cVT) (by decide)) fun en s' ⟨r,X,h1,h2,v,e,hr,h⟩=>⟨r,X,h1,h2,by
  rcases h with ⟨m,hm,ho,he⟩| ⟨hm,_⟩
  ·rw[rW] at hm;cases hm
   rw[rL1] at ho
   exact⟨v,by rw[hr,he],ho⟩
  rw[rW] at hm;cases hm⟩
theorem agv{v4 vf:Value}{fa:Option Addr}{fs:List cu}(h:fI ro [v0,v1,.slice fa 0 fc,v3,v4,v5,v6,v7,zI 1,zI 1,zI n,vb] (aU n))(hf:bD ro vf 3 mX fs):fI ro [v0,v1,.slice fa 0 fc,v3,v4,v5,v6,v7,zI 1,zI 1,zI n,vf] (D5 n fs):=by
 obtain⟨w0,w1,w3,w4,w5,w6,w7,wb,ga,gc,hv,e,h1,h2,h3,h4,h5,h6,h7,_⟩:=h
 cases e
 exact⟨_,_,_,_,_,_,_,_,_,_,hv,rfl,h1,h2,h3,h4,h5,h6,h7,hf⟩
theorem PI{v4:Value}{fa fb:Option Addr}{fn fd:Nat}(h:∀v∈[v0,v1,v3,v4,v5,v6,v7,vb],single v=true):∀v∈[v0,v1,.slice fa 0 fc,v3,v4,v5,v6,v7,zI 1,zI 1,zI 2,.slice fb fn fd],single v=true:=by
 simp only[List.mem_cons,List.not_mem_nil,or_false] at h ⊢
 rintro v (rfl|rfl|rfl|rfl|rfl|rfl|rfl|rfl|rfl|rfl|rfl|rfl)<;>first|rfl|exact h _ (by simp)
theorem LL.up{aG:Nat→Option Obj}{v:Value}(h:LL ro v W)(hs:Sub ro aG):LL aG v W:=by
 obtain⟨ws,h1,h2⟩:=h
 exact⟨ws,h1.up hs,h2.imp fun _ _ k=>k.up hs⟩
theorem aIo(a b c d:Int):EqV zT 65 (.agg ⟨[zI a,zI b]⟩) (.agg ⟨[zI c,zI d]⟩) (a==c&&(b==d&&true)):=
 Om (uy (dep:=9999) (m8 Tryz.typeInfo65 Tryz.underlying65 rfl rfl rfl rfl rfl rfl) Tryz.stoodInHeld65 (.cons (by decide) (jY mz rfl) (jY mz rfl) (n6 mz _ _) (.cons (by decide) (jY mz rfl) (jY mz rfl) (n6 mz _ _) .nil)))
theorem aOI:n9 zT 65:=by unfold n9;kernel_rfl
theorem XJ:Dh zT 15 [] ro [] (fun r Y=>r= .bool true∧Y=[]):=by
 refine AZ au [] [] ba fun fr=>zD 6<|jc (vs:=[zI 2]) [] (ME) ?_
 rintro _ Y16 ⟨l16,rfl,aS9,J6⟩
 refine jf [0] Y16 (fun z0 bZ iQ=>?_)
 have aTw:=aS9 _ iQ
 refine NJ (vs:=[(.agg ⟨l16⟩)]) [] (fun _ _ h=>h) (aaC aTw) ?_
 rintro _ _ ⟨rfl,rfl⟩
 refine jg 0 []<|zD 8<|jc (vs:=[zI 1]) [] (ME) ?_
 rintro _ Y21 ⟨l21,rfl,aS8,abP⟩
 refine jf [0] Y21 (fun ro6 ki YR=>?_)
 have ao4:=aS8 _ YR
 refine NJ (vs:=[(.agg ⟨l21⟩)]) [] (fun _ _ h=>h) (amS ao4) ?_
 rintro _ Y22 ⟨v22,rfl,aRf⟩
 refine zD 5<|jf [0] Y22 (fun ro9 rZ hk8=>?_)
 have aTa:=aRf _ hk8
 refine zD 3<|jc (vs:=[zI 2]) [] (ME) ?_
 rintro _ Y26 ⟨wj,rfl,aS7,EN⟩
 refine jf [0] Y26 (fun bbe aFy aRx=>?_)
 have aTv:=aS7 _ aRx
 refine NJ (vs:=[(.agg ⟨wj⟩)]) [] (fun _ _ h=>h) (aez aTv) ?_
 rintro _ _ ⟨rfl,rfl⟩
 refine jg 0 []<|zD 3<|jn fun b5=>jd 5 [0]<|jc (vs:=[zI 1]) [] (ME) ?_
 rintro _ Y31 ⟨Q5,rfl,aS6,J5⟩
 refine jf [0] Y31 (fun bbc aFw aoG=>?_)
 have aTu:=aS6 _ aoG
 refine NJ (vs:=[(.agg ⟨Q5⟩)]) [] (fun _ _ h=>h) (aeA aTu) ?_
 rintro _ _ ⟨rfl,rfl⟩
 refine jg 0 []<|zD 8<|jc (vs:=[zI 2]) [] (ME) ?_
 rintro _ Y36 ⟨l36,rfl,aS5,N6⟩
 refine jp (vs:=[zI 2,zI 1,.bool true]) [] [] (fun aI hs hZ=>apD)<|jp (vs:=[zI 0,zI 1,.bool true]) [] [] (fun aI hs hZ=>apD)<|jn fun b39=>jf [1,0] (Y36++[(b39,.cells ⟨[zI 2,zI 1,.bool true,zI 0,zI 1,.bool true]⟩ 58 (0,0))]) (fun bba aFv abG=>?_)
 have aTs:=aS5 _ (Knows.left abG)
 have aRM:=bU (sz:=3) (enc:=mX) (T:=58) [⟨2,1,true⟩,⟨0,1,true⟩] (Knows.right abG _ (.head _)) (fun _ _=>rfl)
 obtain⟨v0,v1,v3,v4,v5,v6,v7,vb,fa,fc,rfl,aQe⟩:=N6
 refine jp (vs:=[.agg ⟨[v0,v1,(.slice fa 0 fc),v3,v4,v5,v6,v7,zI 1,zI 1,zI 2,vb]⟩,(.slice (some ⟨b39,0,none⟩) 2 2)]) [] [] (fun aI hs hZ=>aID (PI aQe))<|jc (vs:=[.agg ⟨[v0,v1,(.slice fa 0 fc),v3,v4,v5,v6,v7,zI 1,zI 1,zI 2,(.slice (some ⟨b39,0,none⟩) 2 2)]⟩]) [] (aey (agv aTs aRM)) ?_
 rintro _ Y41 ⟨v41,rfl,aQP⟩
 refine zD 8<|jc (vs:=[zI 2]) [] (ME) ?_
 rintro _ Y45 ⟨l45,rfl,aS4,ao3⟩
 refine jf [0] Y45 (fun ba8 aFu aRu=>?_)
 have aTr:=aS4 _ aRu
 refine NJ (vs:=[(.agg ⟨l45⟩)]) [] (fun _ _ h=>h) (atX aTr) ?_
 rintro _ _ ⟨qa,qb,rfl,rfl⟩
 refine jg 0 []<|jd 49 [1]<|jeq aOI (aIo 0 2 0 2)<|zD 3<|jn fun b92=>jn fun b93=>jn fun b94=>jf [2,1,0] ((b92,.cells ⟨[zI 0,zI 0]⟩ 3 (0,0))::((b93,.cells ⟨[zI 2,zI 1]⟩ 3 (0,0))::[(b94,.cells ⟨[.slice (some ⟨b92,0,none⟩) 2 2,.slice (some ⟨b93,0,none⟩) 2 2]⟩ 22 (0,0))])) (fun ba7 aFt axf=>?_)
 obtain⟨wsM,hsM,haM⟩:=aTa.up ((((aFy.trans aFw).trans aFv).trans aFu).trans aFt)
 have aPK:=bU (sz:=1) (enc:=fH) (T:=22) [.slice (some ⟨b92,0,none⟩) 2 2,.slice (some ⟨b93,0,none⟩) 2 2] (axf _ (.tail _ (.tail _ (.head _)))) (fun _ _=>rfl)
 have aSX:=bU (sz:=1) (enc:=cm) (T:=3) [0,0] (axf _ (.head _)) (fun _ _=>rfl)
 have aSW:=bU (sz:=1) (enc:=cm) (T:=3) [2,1] (axf _ (.tail _ (.head _))) (fun _ _=>rfl)
 refine jp (vs:=[v22,(.slice (some ⟨b94,0,none⟩) 2 2)]) [] [] (fun aI hs hZ=>(show dv _ _ _ _ (.bool (EU [[0,0],[2,1]] [[0,0],[2,1]])) from ayS (hsM.up hs) (aPK.up hs) (haM.imp fun _ _ h=>h.up hs) (.cons (aSX.up hs) (.cons (aSW.up hs) .nil)) (by decide) (by decide) (by decide) (by decide)))<|zD 3<|jn fun b99=>jp (vs:=[v41,.slice (some ⟨b99,0,none⟩) 1 1]) [1,0] (Y41++[(b99,.cells ⟨([0].map cm).flatten⟩ 3 (0,0))]) (fun aI hs hZ=>(show dv _ _ _ _ (.bool (Il [0] [0])) from akg (aQP.kg hZ.left) (bU [0] hZ.right.head (by intro p hp;rfl)) (by decide) (by decide))) ?_
 refine zD 4<|O8 qC.a.a.a.a.a.a.a.a (.bool true) [3] [] (((((((bZ.trans ki).trans rZ).trans aFy).trans aFw).trans aFv).trans aFu).trans aFt) ⟨rfl,rfl⟩
theorem Y1{n:Nat}(hn:n≤4)(hi:i <n):hasB (IntKind.u8.wrap (dC .u8 1 (n:Int)-1)) i=true:=by
 have h:(n=1∧i=0)∨(n=2∧(i=0∨i=1))∨(n=3∧(i=0∨i=1∨i=2))∨(n=4∧(i=0∨i=1∨i=2∨i=3)):=by omega
 rcases h with ⟨rfl,rfl⟩| ⟨rfl,rfl|rfl⟩| ⟨rfl,rfl|rfl|rfl⟩| ⟨rfl,rfl|rfl|rfl|rfl⟩<;>rfl
def sO(a b:Int)(l:List cu):Bool:=l.any fun x=>(decide (x.a=a)&&decide (x.b=b))&& !x.same
def mD(p:Nat→Int)(l:List cu):Bool:=l.all fun x=> !x.same||decide (p x.a.toNat=x.b+1)
theorem Xv{on:Int}{a b:Int}:∀ {l:List cu} {k:Nat},(∀j,j <l.length→hasB on ((k+j:Nat):Int)=true)→xV on a b l k=sO a b l
 | [],_,_=>rfl
 |x::l,k,h=>by
  have h0:=h 0 (Nat.zero_lt_succ _)
  have ih:=Xv (a:=a) (b:=b) (l:=l) (k:=k+1) fun j hj=>by
   have:=h (j+1) (Nat.succ_lt_succ hj)
   rwa[show k+1+j=k+(j+1) by omega]
  simp only[Nat.add_zero] at h0
  simp only[xV,h0,ih,sO,List.any_cons,Bool.true_and]
theorem KC{on:Int}{p:Nat→Int}:∀ {l:List cu} {k:Nat},(∀j,j <l.length→hasB on ((k+j:Nat):Int)=true)→lI on p l k=mD p l
 | [],_,_=>rfl
 |x::l,k,h=>by
  have h0:=h 0 (Nat.zero_lt_succ _)
  have ih:=KC (p:=p) (l:=l) (k:=k+1) fun j hj=>by
   have:=h (j+1) (Nat.succ_lt_succ hj)
   rwa[show k+1+j=k+(j+1) by omega]
  simp only[Nat.add_zero] at h0
  simp only[lI,h0,ih,mD,List.all_cons,Bool.true_and]
  cases x.same<;>cases decide (p x.a.toNat=x.b+1)<;>simp
def fZ(F:Nat→Nat→Bool)(R:(Nat→Int)→Bool)(na:Nat):Nat→Nat→(Nat→Int)→List (Nat→Int)
 |0,_,p=>bif R p then [p] else []
 |n+1,a,p=>fZ F R na n (a+1) p++(List.range na).flatMap fun b=>bif !F a b||qt p a ((b:Int)+1) then [] else fZ F R na n (a+1) (ig p a ((b:Int)+1))
def oV(K:aB)(a b:Nat):Bool:=match K.before[a]?,K.after[b]? with
 |some x,some y=> !j7 K x y&&(!mP K x y&& !sO a b K.facts)
 |_,_=>false
theorem Zj(h:K.facts.length≤4)(a b:Nat):dj K (aC K) a b=oV K a b:=by
 have e:xV (aC K) a b K.facts 0=sO a b K.facts:=Xv fun j hj=>by
  rw[Nat.zero_add];exact Y1 h hj
 simp only[dj,oV,e]
 cases K.before[a]?<;>cases K.after[b]?<;>rfl
theorem oD(h:K.facts.length≤4):∀(n a:Nat) (p:Nat→Int),iE K (aC K) n a p=fZ (oV K) (fun p=>mD p K.facts) K.after.length n a p
 |0,a,p=>by
  have e:lI (aC K) p K.facts 0=mD p K.facts:=KC fun j hj=>by
   rw[Nat.zero_add];exact Y1 h hj
  simp only[iE,fZ,e]
 |n+1,a,p=>by
  simp only[iE,fZ,Zj h,oD h n]
theorem kF{r:bE}(hq:q <4):pI (bx K r i p) q=p q:=by
 rcases Aa hq with rfl|rfl|rfl|rfl<;>rfl
theorem Ic{p:Int→Bool}:∀(l:List Int) (k:Nat),cv p l k≥0↔∃x∈l,p x=true
 | [],k=>by simp[cv]
 |x::l,k=>by
  have ih:=Ic (p:=p) l (k+1)
  simp only[cv,List.mem_cons,exists_eq_or_imp]
  cases h:p x
  ·simp only[cond_false,Bool.false_eq_true,false_or];exact ih
  simp only[cond_true,true_or,iff_true];omega
theorem Xl(p:Nat→Int){a:Nat}(ha:a≤4)(v:Int):v∈(pL p).take a↔∃c,c <a∧p c=v:=by
 have h:a=0∨a=1∨a=2∨a=3∨a=4:=by omega
 constructor
 ·intro hv
  rcases h with rfl|rfl|rfl|rfl|rfl<;>simp[pL] at hv
  ·exact⟨0,by omega,hv.symm⟩
  ·rcases hv with h|h;exact⟨0,by omega,h.symm⟩;exact⟨1,by omega,h.symm⟩
  ·rcases hv with h|h|h;exact⟨0,by omega,h.symm⟩;exact⟨1,by omega,h.symm⟩;exact⟨2,by omega,h.symm⟩
  rcases hv with h|h|h|h;exact⟨0,by omega,h.symm⟩;exact⟨1,by omega,h.symm⟩;exact⟨2,by omega,h.symm⟩;exact⟨3,by omega,h.symm⟩
 rintro⟨c,hc,rfl⟩
 have hc4:c=0∨c=1∨c=2∨c=3:=by omega
 rcases h with rfl|rfl|rfl|rfl|rfl<;>rcases hc4 with rfl|rfl|rfl|rfl<;>first|omega|simp[pL]
theorem R7{a:Nat}{v:Int}(ha:a≤4):qt p a v=true↔∃c,c <a∧p c=v:=by
 simp only[qt,decide_eq_true_eq]
 rw[Ic]
 constructor
 ·rintro⟨x,hx,h⟩
  obtain⟨c,hc,e⟩:=(Xl p ha x).1 hx
  exact⟨c,hc,by rw[e];exact(of_decide_eq_true h).symm⟩
 rintro⟨c,hc,e⟩
 exact⟨v,(Xl p ha v).2 ⟨c,hc,e⟩,decide_eq_true rfl⟩
theorem sZ{F:Nat→Nat→Bool}{R:(Nat→Int)→Bool}{na:Nat}:∀(n a:Nat) (p q:Nat→Int),a+n≤4→(q∈fZ F R na n a p↔(∀c,c <a∨a+n≤c→q c=p c)∧(∀c,a≤c→c <a+n→q c=p c∨∃b,b <na∧F c b=true∧q c=(b:Int)+1∧∀d,d <c→q d≠(b:Int)+1)∧R q=true)
 |0,a,p,q,_=>by
  simp only[fZ,Nat.add_zero]
  constructor
  ·intro h
   cases hr:R p
   ·rw[hr] at h;simp at h
   rw[hr] at h;simp at h;subst h;exact⟨fun _ _=>rfl,fun c h1 h2=>by omega,hr⟩
  rintro⟨h1,_,h3⟩
  have e:q=p:=funext fun c=>h1 c (by omega)
  subst e
  rw[h3];simp
 |n+1,a,p,q,han=>by
  simp only[fZ,List.mem_append,List.mem_flatMap,List.mem_range]
  constructor
  ·rintro(h| ⟨b,hb,h⟩)
   ·obtain⟨h1,h2,h3⟩:=(sZ n (a+1) p q (by omega)).1 h
    refine⟨fun c hc=>h1 c (by omega),fun c hc1 Pg=>?_,h3⟩
    by_cases e:c=a
    ·exact .inl (h1 c (by omega))
    exact h2 c (by omega) (by omega)
   cases hx: !F a b||qt p a ((b:Int)+1)
   ·rw[hx] at h
    simp only[cond_false] at h
    obtain⟨h1,h2,h3⟩:=(sZ n (a+1) _ q (by omega)).1 h
    simp only[Bool.or_eq_false_iff,Bool.not_eq_false'] at hx
    have hp:∀c,c≠a→ig p a ((b:Int)+1) c=p c:=fun c hc=>by simp[ig,hc]
    refine⟨fun c hc=>by rw[h1 c (by omega),hp c (by omega)],fun c hc1 Pg=>?_,h3⟩
    by_cases e:c=a
    ·subst e
     have hq:q c=(b:Int)+1:=by rw[h1 c (by omega)];simp[ig]
     refine .inr ⟨b,hb,hx.1,hq,fun d hd hqd=>?_⟩
     have:qt p c ((b:Int)+1)=true:=(R7 (by omega)).2 ⟨d,hd,by rw[←hqd,h1 d (by omega),hp d (by omega)]⟩
     rw[hx.2] at this;cases this
    rcases h2 c (by omega) (by omega) with h|h
    ·exact .inl (by rw[h,hp c e])
    exact .inr h
   rw[hx] at h;simp at h
  rintro⟨h1,h2,h3⟩
  rcases h2 a (Nat.le_refl _) (by omega) with he| ⟨b,hb,hF,hq,hd⟩
  ·left
   exact(sZ n (a+1) p q (by omega)).2 ⟨fun c hc=>by
    by_cases e:c=a
    ·rw[e];exact he
    exact h1 c (by omega),fun c hc1 Pg=>h2 c (by omega) (by omega),h3⟩
  right
  refine⟨b,hb,?_⟩
  have hx:(!F a b||qt p a ((b:Int)+1))=false:=by
   cases hh:qt p a ((b:Int)+1)
   ·simp[hF]
   obtain⟨c,hc,e⟩:=(R7 (by omega)).1 hh
   exact absurd (by rw[h1 c (by omega),e]) (hd c hc)
  rw[hx]
  simp only[cond_false]
  refine(sZ n (a+1) _ q (by omega)).2 ⟨fun c hc=>?_,fun c hc1 Pg=>?_,h3⟩
  ·by_cases e:c=a
   ·rw[e,hq];simp[ig]
   rw[h1 c (by omega)];simp[ig,e]
  have:ig p a ((b:Int)+1) c=p c:=by simp[ig,show c≠a by omega]
  rw[this]
  exact h2 c (by omega) (by omega)
theorem fg(h:K.facts.length≤4)(hb:K.before.length≤4){q:Nat→Int}:q∈aN K (aC K)↔(∀c,q c=0∨(c <K.before.length∧∃b,b <K.after.length∧oV K c b=true∧q c=(b:Int)+1))∧(∀c d,d <c→q c=q d→q c=0)∧mD q K.facts=true:=by
 rw[aN,oD h,sZ _ _ _ _ (by omega)]
 constructor
 ·rintro⟨h1,h2,h3⟩
  have key:∀c,q c=0∨(c <K.before.length∧∃b,b <K.after.length∧oV K c b=true∧q c=(b:Int)+1∧∀d,d <c→q d≠(b:Int)+1):=fun c=>by
   by_cases hc:c <K.before.length
   ·rcases h2 c (Nat.zero_le _) (by omega) with e| ⟨b,h⟩
    ·exact .inl e
    exact .inr ⟨hc,b,h⟩
   exact .inl (h1 c (.inr (by omega)))
  refine⟨fun c=>?_,fun c d hd e=>?_,h3⟩
  ·rcases key c with e| ⟨hc,b,hb1,fM,hb3,_⟩
   ·exact .inl e
   exact .inr ⟨hc,b,hb1,fM,hb3⟩
  rcases key c with e2| ⟨hc,b,_,_,hq,dL⟩
  ·exact e2
  exact absurd (by rw[←e,hq]) (dL d hd)
 rintro⟨h1,h2,h3⟩
 refine⟨fun c hc=>?_,fun c _ hc=>?_,h3⟩
 ·rcases h1 c with e| ⟨Pg,_⟩
  ·exact e
  omega
 rcases h1 c with e| ⟨_,b,hb1,fM,hq⟩
 ·exact .inl e
 refine .inr ⟨b,hb1,fM,hq,fun d hd e=>?_⟩
 have:=h2 c d hd (by rw[hq,e])
 omega
def uV(W:List (List Int))(a b:Int):Bool:=W.any fun l=>Il l [a,b]
theorem R6{a b:Int}{l:List Int}(h:W[k]?=some l):uV (W.drop k) a b=(Il l [a,b]||uV (W.drop (k+1)) a b):=by rw[fx h];rfl
theorem abN{a b:Int}(h:¬k <W.length):uV (W.drop k) a b=false:=by rw[eA h];rfl
theorem ami{v:Value}{a b:Int}(hv:bD ro v 1 fH ws)(ha:de (fun w l=>bD ro w 1 cm l) ws W)(hx:W.length≤1000)(hW:∀l∈W,l.length≤1000):dv zT 21 [v,zI a,zI b] ro (.bool (uV W a b)):=by
 obtain⟨I6,qvb,qvo,yf,rfl,qvk,Nb,Na⟩:=hv
 have hla:=ha.len
 refine zE<|zD 10<|dP [1,0,1,0,0] [] (fun(zz:Nat)=>[(0,.slice I6 ws.length yf),(1,zI a),(2,zI b),(7,zI (zz:Int))]) (fun zz=>[]) (fun zz=>zz≤W.length∧uV W a b=uV (W.drop zz) a b) (fun zz=>W.length-zz) 0 ⟨by omega,rfl⟩ [] ?_
 rintro k hI K1 bH rest
 refine zD 8<|zJ 11 ((k:Int) <(ws.length:Int)) (fun h1=>?_) fun h1=>?_
 ·
  refine zD 8 ?_
  obtain⟨tE,iK⟩:=zG ws k
  refine ek yf 1 Nb iK ?_
  obtain⟨l17,ah7,V3⟩:=ha.get iK
  obtain abE:=hW _ (zL ah7)
  obtain⟨aeV,aut,aup,aeU,rfl,aur,aus,auq⟩:=V3
  refine jl 0 (Na _ _ iK)<|zD 2<|jn fun b20=>jp (vs:=[.slice aeV l17.length aeU,.slice (some ⟨b20,0,none⟩) 2 2]) [0] [(b20,.cells ⟨([a,b].map cm).flatten⟩ 3 (0,0))] (fun aI hs hZ=>akg ((show bD _ _ _ _ _ from ⟨aeV,aut,aup,aeU,rfl,aur,aus,auq⟩).up hs) (bU [a,b] hZ.head (by intro p hp;rfl)) abE (by simp)) ?_
  refine zD 1<|js 21 (Il l17 [a,b]) (fun h2=>?_) (fun h2=>?_)
  ·
   refine zD 6<|zX (.bool true) ⟨by rw[hI.2,R6 ah7];simp_all,rfl⟩
  refine zD 4<|ja ((k:Int)+1) (by omega)<|zD 2<|bI bH (k+1) ⟨by omega,by rw[hI.2,R6 ah7];simp_all⟩ (by omega) [] (Sub.refl _)
 refine zD 7<|zX (.bool false) ⟨by rw[hI.2,abN (by omega)],rfl⟩
theorem agL{rows:List bE}{a:Nat}(hK:fI ro l K)(hV:eE K)(hB:gL ro l K rows)(zh:a <K.before.length)(HP:b <K.after.length):dO zT 43 [.agg ⟨l⟩,zI (a:Int),zI (b:Int)] ro [] (fun r Y=>∃f,r= .tuple ⟨[pV f,zI 0]⟩∧(∀aG,Sub ro aG→Knows aG Y→oX aG f K rows)):=by
 obtain⟨v0,v1,v3,v4,v5,v6,v7,vb,fa,fc,hv,rfl,_,_,_,_,_,hb,ha,_⟩:=id hK
 obtain⟨lh,O6,O4,kY,rfl,O5,Nk,Nj⟩:=hb
 obtain⟨kS,KU,KS,kA,rfl,KT,JF,JE⟩:=ha
 have BK:=hV.before.1
 have EJ:=hV.after.1
 refine zE<|zD 2<|jn fun b3=>jd 6 [0]<|jc (vs:=[.agg ⟨[v0,v1,.slice fa 0 fc,v3,v4,v5,.slice lh K.before.length kY,.slice kS K.after.length kA,zI K.gone,zI K.new,zI K.af,vb]⟩]) [] (hB _ (Sub.refl _)) ?_
 rintro _ Y12 ⟨f12,rfl,ayi⟩
 refine jd 22 [1]<|ja ((K.before.length:Int)-1) (by omega)<|jp (vs:=[zI (a:Int),zI 0,zI ((K.before.length:Int)-1)]) [] [] (fun aI hs hZ=>fo)<|zD 3<|js 19 (!(iH (a:Int) 0 ((K.before.length:Int)-1))) (fun h1=>?_) (fun h1=>?_)
 ·
  try simp only[zB] at h1
  exfalso;simp only[iH,Bool.and_eq_false_iff,decide_eq_false_iff_not] at h1;omega
 try simp only[zB] at h1
 refine jd 6 [1]<|ja ((K.after.length:Int)-1) (by omega)<|jp (vs:=[zI (b:Int),zI 0,zI ((K.after.length:Int)-1)]) [] [] (fun aI hs hZ=>fo)<|zD 3<|js 19 (!(iH (b:Int) 0 ((K.after.length:Int)-1))) (fun h2=>?_) (fun h2=>?_)
 ·
  try simp only[zB] at h2
  exfalso;simp only[iH,Bool.and_eq_false_iff,decide_eq_false_iff_not] at h2;omega
 try simp only[zB] at h2
 refine zD 9<|zR (.tuple ⟨[zP f12,zI 0]⟩) [] [0] Y12 ⟨f12,rfl,ayi⟩
theorem Oo:∀ {l m:List Int},Il l m=true↔l=m
 | [],[]=>by simp[Il]
 | [],y::m=>by simp[Il]
 |x::l,[]=>by simp[Il]
 |x::l,y::m=>by simp[Il,Oo (l:=l) (m:=m)]
theorem CQ{a b:Int}:uV W a b=true↔[a,b]∈W:=by
 simp only[uV,List.any_eq_true]
 constructor
 ·rintro⟨l,hl,e⟩;rwa[Oo.1 e] at hl
 exact fun h=>⟨_,h,Oo.2 rfl⟩
theorem GF(p:Nat→Int):qS (pL p)=(if p 0>0 then 1 else 0)+(if p 1>0 then 1 else 0)+(if p 2>0 then 1 else 0)+(if p 3>0 then 1 else 0):=by
 simp only[qS,pL,List.filter_cons,List.filter_nil,decide_eq_true_eq]
 split<;>split<;>split<;>split<;>simp
def pw(K:aB)(on:Int)(a b:Nat):Nat→Bool
 |0=>match K.before[a]?,K.after[b]? with
  |some x,some y=>j7 K x y
  |_,_=>false
 |1=>match K.before[a]?,K.after[b]? with
  |some x,some y=>mP K x y
  |_,_=>false
 |_=>xV on a b K.facts 0
def dN(K:aB)(on:Int)(a b:Nat):Nat→List Int
 |0=>[]
 |k+1=>dN K on a b k++(bif pw K on a b k then [(k:Int)+1] else [])
theorem Mx{K:aB}{on:Int}{a b:Nat}:∀k,(dN K on a b k).length≤k
 |0=>Nat.le_refl _
 |k+1=>by
  have:=Mx (K:=K) (on:=on) (a:=a) (b:=b) k
  rw[dN,List.length_append]
  cases pw K on a b k<;>simp<;>omega
theorem Ow{on:Int}{a:Nat}(h:pw K on a b k=true):dN K on a b (k+1)=dN K on a b k++[(k:Int)+1]:=by rw[dN,h];rfl
theorem Ox{on:Int}{a:Nat}(h:pw K on a b k=false):dN K on a b (k+1)=dN K on a b k:=by rw[dN,h];exact List.append_nil _
theorem avC:dv zT 320 [.agg ⟨[]⟩] ro (zI 1):=by
 refine zE<|zD 2<|jn fun b1=>zD 7<|zX (zI 1) ⟨rfl,rfl⟩
theorem avB:dv zT 322 [.agg ⟨[]⟩] ro (zI 2):=by
 refine zE<|zD 2<|jn fun b1=>zD 7<|zX (zI 2) ⟨rfl,rfl⟩
theorem avA:dv zT 328 [.agg ⟨[]⟩] ro (zI 3):=by
 refine zE<|zD 2<|jn fun b1=>zD 7<|zX (zI 3) ⟨rfl,rfl⟩
theorem agX{rows:List bE}{a:Nat}(hK:fI ro l K)(hV:eE K)(hB:gL ro l K rows)(zh:a <K.before.length)(HP:b <K.after.length):dO zT 13 [.agg ⟨l⟩,zI (a:Int),zI (b:Int)] ro [] (fun r Y=>∃v,r= .tuple ⟨[v,zI 0]⟩∧ax v 1 3 cm (dN K (aC K) a b 3) Y):=by
 obtain⟨v0,v1,v3,v4,v5,v6,v7,vb,fa,fc,hv,rfl,_,_,_,_,_,hbS,haS,_⟩:=id hK
 obtain⟨lh,O6,O4,kY,rfl,O5,Nk,Nj⟩:=hbS
 obtain⟨kS,KU,KS,kA,rfl,KT,JF,JE⟩:=haS
 have BK:=hV.before.1
 have EJ:=hV.after.1
 obtain⟨x,ha⟩:∃x,K.before[a]?=some x:=⟨_,List.getElem?_eq_getElem zh⟩
 obtain⟨y,hb⟩:∃y,K.after[b]?=some y:=⟨_,List.getElem?_eq_getElem HP⟩
 have hc0:pw K (aC K) a b 0=j7 K x y:=by simp only[pw,ha,hb]
 have hc1:pw K (aC K) a b 1=mP K x y:=by simp only[pw,ha,hb]
 have Pg:pw K (aC K) a b 2=xV (aC K) a b K.facts 0:=rfl
 refine zE<|zD 2<|jn fun b3=>jd 8 [0]<|jc (vs:=[.agg ⟨[v0,v1,.slice fa 0 fc,v3,v4,v5,.slice lh K.before.length kY,.slice kS K.after.length kA,zI K.gone,zI K.new,zI K.af,vb]⟩,zI (a:Int),zI (b:Int)]) [] (agL hK hV hB zh HP) ?_
 rintro _ Y17 ⟨f17,rfl,aTy⟩
 refine zD 5<|jf [0] Y17 (fun z0 bZ iQ=>?_)
 have hF:=aTy _ bZ iQ
 have BP:=hF
 refine zD 16<|jp [] [] (fun aI hs hZ=>are)<|zD 3<|nY<|dP [1,1,1,1,0,1,0,0] [] (fun(zz:Nat×Value×Cells)=>[(1,zI (a:Int)),(2,zI (b:Int)),(6,zS),(7,zI 0),(8,zP f17),(10,zz.2.1),(23,.agg ⟨[.iface 166 (.agg ⟨[]⟩),.iface 167 (.agg ⟨[]⟩),.iface 168 (.agg ⟨[]⟩)]⟩),(24,zI (zz.1:Int))]) (fun zz=>[.l zz.2.2]) (fun zz=>zz.1≤3∧ax zz.2.1 1 3 cm (dN K (aC K) a b zz.1) zz.2.2) (fun zz=>3-zz.1) (⟨0,zS,[]⟩) ⟨by dsimp only;omega,ax.nil _ _ _⟩ [0] ?_
 rintro⟨k,vO,LO⟩ hI K1 bH rest
 dsimp only at hI
 have iJ:=Mx (K:=K) (on:=aC K) (a:=a) (b:=b) k
 refine zD 5<|zJ 25 ((k:Int) <3) (fun h4=>?_) fun h4=>?_
 ·
  refine zD 6 ?_
  obtain rfl|rfl|rfl:k=0∨k=1∨k=2:=by omega
  ·
   refine zD 13<|jp (vs:=[zP f17]) [] [] (fun aI hs hZ=>DK hV (BP.up hs))<|aV 9 fun yA yI x6=>jpI (vs:=[.agg ⟨[]⟩,zP f17,zI (a:Int),zI (b:Int),.int .u8 (aC K)]) (fun aI hs=>agC (hF.up hs) hV ha hb)<|eH x6 [0]<|zD 1<|js 36 (j7 K x y) (fun h6=>?_) (fun h6=>?_)
   ·
    refine zD 4<|jpI (vs:=[.agg ⟨[]⟩]) (fun aI hs=>avC)<|jn fun qW=>iC (sz:=1) (ps:=(dN K (aC K) a b 0)) (qs:=[1]) (enc:=cm) (w:= .slice (some ⟨qW,0,none⟩) 1 1) [1] [0] [(qW,.cells ⟨([1].map cm).flatten⟩ 3 (0,0))] (hI.2) (fun s _ hZ=>bK [1] (hZ _ (.head _)) (by intro p hp;rfl)) (fun p _=>aj rfl) (by simp only[List.length_cons,List.length_nil];omega) (fun v41 L41 qm=>?_)
    obtain⟨FR,FO,HL⟩:=qm.form
    subst HL
    refine zD 6<|bI bH (⟨1,(.slice FR (((dN K (aC K) a b 0)++[1])).length FO),L41⟩) ⟨by dsimp only;omega,by dsimp only;rw[show (dN K (aC K) a b 1)=(dN K (aC K) a b 0)++[1] from Ow (hc0.trans (by assumption))];exact qm⟩ (by dsimp only;omega) [0] (Sub.refl _)
   refine zD 6<|bI bH (⟨1,vO,LO⟩) ⟨by dsimp only;omega,by dsimp only;rw[show (dN K (aC K) a b 1)=(dN K (aC K) a b 0) from Ox (hc0.trans (by assumption))];exact hI.2⟩ (by dsimp only;omega) [0] (Sub.refl _)
  ·
   refine zD 13<|jp (vs:=[zP f17]) [] [] (fun aI hs hZ=>DK hV (BP.up hs))<|aV 9 fun pW pZ oU=>jpI (vs:=[.agg ⟨[]⟩,zP f17,zI (a:Int),zI (b:Int),.int .u8 (aC K)]) (fun aI hs=>Rb (hF.up hs) hV ha hb)<|eH oU [0]<|zD 1<|js 36 (mP K x y) (fun h8=>?_) (fun h8=>?_)
   ·
    refine zD 4<|jpI (vs:=[.agg ⟨[]⟩]) (fun aI hs=>avB)<|jn fun qW=>iC (sz:=1) (ps:=(dN K (aC K) a b 1)) (qs:=[2]) (enc:=cm) (w:= .slice (some ⟨qW,0,none⟩) 1 1) [1] [0] [(qW,.cells ⟨([2].map cm).flatten⟩ 3 (0,0))] (hI.2) (fun s _ hZ=>bK [2] (hZ _ (.head _)) (by intro p hp;rfl)) (fun p _=>aj rfl) (by simp only[List.length_cons,List.length_nil];omega) (fun v41 L41 qm=>?_)
    obtain⟨FR,FO,HL⟩:=qm.form
    subst HL
    refine zD 6<|bI bH (⟨2,(.slice FR (((dN K (aC K) a b 1)++[2])).length FO),L41⟩) ⟨by dsimp only;omega,by dsimp only;rw[show (dN K (aC K) a b 2)=(dN K (aC K) a b 1)++[2] from Ow (hc1.trans (by assumption))];exact qm⟩ (by dsimp only;omega) [0] (Sub.refl _)
   refine zD 6<|bI bH (⟨2,vO,LO⟩) ⟨by dsimp only;omega,by dsimp only;rw[show (dN K (aC K) a b 2)=(dN K (aC K) a b 1) from Ox (hc1.trans (by assumption))];exact hI.2⟩ (by dsimp only;omega) [0] (Sub.refl _)
  refine zD 13<|jp (vs:=[zP f17]) [] [] (fun aI hs hZ=>DK hV (BP.up hs))<|aV 9 fun rI rK qu=>jpI (vs:=[.agg ⟨[]⟩,zP f17,zI (a:Int),zI (b:Int),.int .u8 (aC K)]) (fun aI hs=>Yq (hF.up hs) hV)<|eH qu [0]<|zD 1<|js 36 (xV (aC K) a b K.facts 0) (fun Jo=>?_) (fun Jo=>?_)
  ·
   refine zD 4<|jpI (vs:=[.agg ⟨[]⟩]) (fun aI hs=>avA)<|jn fun qW=>iC (sz:=1) (ps:=(dN K (aC K) a b 2)) (qs:=[3]) (enc:=cm) (w:= .slice (some ⟨qW,0,none⟩) 1 1) [1] [0] [(qW,.cells ⟨([3].map cm).flatten⟩ 3 (0,0))] (hI.2) (fun s _ hZ=>bK [3] (hZ _ (.head _)) (by intro p hp;rfl)) (fun p _=>aj rfl) (by simp only[List.length_cons,List.length_nil];omega) (fun v41 L41 qm=>?_)
   obtain⟨FR,FO,HL⟩:=qm.form
   subst HL
   refine zD 6<|bI bH (⟨3,(.slice FR (((dN K (aC K) a b 2)++[3])).length FO),L41⟩) ⟨by dsimp only;omega,by dsimp only;rw[show (dN K (aC K) a b 3)=(dN K (aC K) a b 2)++[3] from Ow (Pg.trans (by assumption))];exact qm⟩ (by dsimp only;omega) [0] (Sub.refl _)
  refine zD 6<|bI bH (⟨3,vO,LO⟩) ⟨by dsimp only;omega,by dsimp only;rw[show (dN K (aC K) a b 3)=(dN K (aC K) a b 2) from Ox (Pg.trans (by assumption))];exact hI.2⟩ (by dsimp only;omega) [0] (Sub.refl _)
 refine zD 9<|aL q0.a (.tuple ⟨[vO,zI 0]⟩) [] [0] LO bZ ⟨_,_,rfl,rfl,_,rfl,by have:=hI.2;rwa[show k=3 by omega] at this⟩
def cq(x:ah):Nat→List (List Int)
 |0=>[]
 |k+1=>cq x k++(bif decide (pI x k>0) then [[(k:Int),pI x k-1]] else [])
theorem Fo{x:ah}(h:pI x k>0):cq x (k+1)=cq x k++[[(k:Int),pI x k-1]]:=by rw[cq,decide_eq_true h];rfl
theorem Fp{x:ah}(h:¬pI x k>0):cq x (k+1)=cq x k:=by rw[cq,decide_eq_false h];exact List.append_nil _
theorem lX(x:ah):∀k,(cq x k).length≤k
 |0=>Nat.le_refl _
 |k+1=>by
  have:=lX x k
  rw[cq,List.length_append]
  cases decide (pI x k>0)<;>simp<;>omega
theorem wh{x:ah}{l:List Int}:∀ {k:Nat},l∈cq x k→∃a,a <k∧pI x a>0∧l=[(a:Int),pI x a-1]
 |0,h=>by cases h
 |k+1,h=>by
  rw[cq] at h
  rcases List.mem_append.1 h with h|h
  ·obtain⟨a,h1,h2⟩:=wh h;exact⟨a,by omega,h2⟩
  by_cases hp:pI x k>0
  ·rw[decide_eq_true hp] at h;exact⟨k,by omega,hp,List.mem_singleton.1 h⟩
  rw[decide_eq_false hp] at h;cases h
theorem LG{x:ah}{a:Nat}(h:pI x a>0):∀ {k:Nat},a <k→[(a:Int),pI x a-1]∈cq x k
 |0,hk=>absurd hk (Nat.not_lt_zero _)
 |k+1,hk=>by
  rw[cq]
  by_cases e:a=k
  ·subst e;rw[decide_eq_true h];exact List.mem_append_right _ (List.mem_singleton.2 rfl)
  exact List.mem_append_left _ (LG h (by omega))
def YY(l:List Int):Int:=(l[0]?).getD 0
def hd1(l:List Int):Int:=(l[1]?).getD 0
theorem xz(x:ah):∀k,(cq x k).Pairwise fun l m=>YY l <YY m
 |0=> .nil
 |k+1=>by
  rw[cq]
  refine List.pairwise_append.2 ⟨xz x k,by cases decide (pI x k>0)<;>simp,fun l hl m hm=>?_⟩
  obtain⟨a,h1,_,rfl⟩:=wh hl
  cases hd:decide (pI x k>0) with
  |true=>
   rw[hd] at hm
   rw[List.mem_singleton.1 hm]
   show (a:Int) <(k:Int)
   omega
  |false=>rw[hd] at hm;cases hm
theorem abb{x:ah}:((cq x 4).length:Int)=(if pI x 0>0 then 1 else 0)+(if pI x 1>0 then 1 else 0)+(if pI x 2>0 then 1 else 0)+(if pI x 3>0 then 1 else 0):=by
 have key:∀k,((cq x (k+1)).length:Int)=((cq x k).length:Int)+(if pI x k>0 then 1 else 0):=fun k=>by
  by_cases h:pI x k>0
  ·rw[Fo h,if_pos h];simp
  rw[Fp h,if_neg h];simp
 rw[key,key,key,key]
 simp[cq]
theorem af5{r:bE}{q:Nat→Int}:((cq (bx K r i q) 4).length:Int)=qS (pL q):=by
 rw[abb,GF];rfl
def qP(l:List (List Int)):List cu:=l.map fun p=>⟨YY p,hd1 p,true⟩
theorem aah{l:List (List Int)}(h:t∈qP l):t.same=true:=by
 obtain⟨p,_,rfl⟩:=List.mem_map.1 h;rfl
theorem adQ{x:ah}(h:t∈qP (cq x k)):∃a,a <k∧pI x a>0∧t=⟨(a:Int),pI x a-1,true⟩:=by
 obtain⟨p,hp,rfl⟩:=List.mem_map.1 h
 obtain⟨a,h1,h2,rfl⟩:=wh hp
 exact⟨a,h1,h2,rfl⟩
abbrev nS(K:aB)(x:ah)(g:Int):aB:={K with facts:=qP (cq x 4),gone:=g}
theorem WE{x:ah}(hf:K.facts.length≤4)(hb:K.before.length≤4)(hx:x∈cA K (aC K) (bM K.gone K.new K.af) (cU K)):0 <cH (nS K x x.gone):=by
 obtain⟨i,r,q,hr,hq,rfl,hk⟩:=dV hx
 obtain⟨h1,h2,_⟩:=(fg hf hb).1 hq
 have hl:=lX (bx K r i q) 4
 have DN:q∈aN (nS K (bx K r i q) (bx K r i q).gone) (aC (nS K (bx K r i q) (bx K r i q).gone)):=by
  refine(fg (K:=nS K (bx K r i q) (bx K r i q).gone) (by show (qP (cq (bx K r i q) 4)).length≤4;rw[qP,List.length_map];exact hl) hb).2 ⟨fun c=>?_,h2,?_⟩
  ·rcases h1 c with e| ⟨hc,b,BO,jE,e⟩
   ·exact .inl e
   refine .inr ⟨hc,b,BO,?_,e⟩
   have hs:sO c b (qP (cq (bx K r i q) 4))=false:=List.any_eq_false.2 fun t ht=>by rw[aah ht];simp
   have e2:oV (nS K (bx K r i q) (bx K r i q).gone) c b=match K.before[c]?,K.after[b]? with
    |some x,some y=> !j7 K x y&&(!mP K x y&& !sO c b (qP (cq (bx K r i q) 4)))
    |_,_=>false:=rfl
   rw[e2,hs]
   simp only[oV] at jE
   split at jE
   ·rename_i x y hx hy
    try simp only[hx,hy]
    simp only[Bool.and_eq_true] at jE ⊢
    exact⟨jE.1,jE.2.1,rfl⟩
   cases jE
  rw[mD,List.all_eq_true]
  intro t ht
  obtain⟨a,ha,hp,rfl⟩:=adQ ht
  rw[kF ha]
  simp
 refine List.length_pos_of_mem (a:=bx K r i q) (List.mem_flatten.2 ⟨_,List.mem_map.2 ⟨i,List.mem_range.2 (List.getElem?_eq_some_iff.1 hr).1,rfl⟩,?_⟩)
 have lA:(cU (nS K (bx K r i q) (bx K r i q).gone))[i]?=some r:=hr
 simp only[lA,Option.getD_some,mB]
 refine List.mem_filter.2 ⟨List.mem_map.2 ⟨q,DN,rfl⟩,?_⟩
 simp only[bM,Bool.and_eq_true,decide_eq_true_eq] at hk ⊢
 exact⟨Int.le_refl _,hk.2⟩
theorem akM{x:ah}{a:Nat}(hf:K.facts.length≤4)(hb:K.before.length≤4)(hx:x∈cA K (aC K) (bM K.gone K.new K.af) (cU K))(ha:a <4)(h:pI x a=(b:Int)+1):a <K.before.length∧b <K.after.length∧oV K a b=true:=by
 obtain⟨i,r,q,_,hq,rfl,_⟩:=dV hx
 rw[kF ha] at h
 rcases((fg hf hb).1 hq).1 a with e| ⟨h1,c,hc,jE,e⟩
 ·omega
 have:c=b:=by omega
 subst this
 exact⟨h1,hc,jE⟩
theorem ako{a:Nat}(hf:K.facts.length≤4)(h:oV K a b=true):dN K (aC K) a b 3=[]:=by
 rw[←Zj hf] at h
 simp only[dj] at h
 split at h
 ·rename_i x y hx hy
  simp only[Bool.and_eq_true,Bool.not_eq_true'] at h
  simp only[dN,pw,hx,hy,h.1,h.2.1,h.2.2,cond_false,List.append_nil]
 cases h
theorem WG{x:ah}(hf:K.facts.length≤4)(hb:K.before.length≤4)(hx:x∈cA K (aC K) (bM K.gone K.new K.af) (cU K))(ht:t∈K.facts)(hs:t.same=true)(ha:0≤t.a∧t.a <4)(hbt:0≤t.b): [t.a,t.b]∈cq x 4:=by
 obtain⟨i,r,q,_,hq,rfl,_⟩:=dV hx
 have h:=((fg hf hb).1 hq).2.2
 rw[mD,List.all_eq_true] at h
 have h:=h t ht
 rw[hs] at h
 simp only[Bool.not_true,Bool.false_or,decide_eq_true_eq] at h
 have hp:pI (bx K r i q) t.a.toNat=t.b+1:=by rw[kF (by omega)];exact h
 have:=LG (x:=bx K r i q) (a:=t.a.toNat) (by rw[hp];omega) (k:=4) (by omega)
 rwa[hp,show ((t.a.toNat:Nat):Int)=t.a by omega,show t.b+1-1=t.b by omega] at this
theorem auM{x:ah}(h:k <4):nth [zI x.w0,zI x.w1,zI x.w2,zI x.w3] ((k:Int).toNat*1)=some (zI (pI x k)):=by
 rcases Aa h with rfl|rfl|rfl|rfl<;>rfl
def TrG(x:ah):Prop:=∀c,c <4→0≤pI x c∧pI x c≤4
theorem UZ{x:ah}(hx:TrG x):dO zT 58 [.agg ⟨[zI x.w0,zI x.w1,zI x.w2,zI x.w3]⟩] ro [] (fun r Y=>∀aG,Knows aG Y→LL aG r (cq x 4)):=by
 refine zE<|zD 2<|jn fun b1=>jd 13 [0]<|nY<|nY<|dP [1,1,0,1,0,0] [] (fun(zz:Nat×Value×Cells×(List Value)×Cells)=>[(2,zS),(3,zz.2.1),(6,.agg ⟨[zI x.w0,zI x.w1,zI x.w2,zI x.w3]⟩),(7,zI (zz.1:Int))]) (fun zz=>[.l zz.2.2.1,.l zz.2.2.2.2]) (fun zz=>(zz.1≤4∧zz.2.2.2.1.length=(cq x zz.1).length)∧ax zz.2.1 1 22 fH zz.2.2.2.1 zz.2.2.1∧∀aG,Knows aG zz.2.2.2.2→de (fun w l=>bD aG w 1 cm l) zz.2.2.2.1 (cq x zz.1)) (fun zz=>4-zz.1) (⟨0,zS,[],[],[]⟩) ⟨⟨by dsimp only;omega,rfl⟩,ax.nil _ _ _,fun _ _=> .nil⟩ [1,0] ?_
 rintro⟨k,vO,LO,es,Z⟩ hI K1 bH rest
 dsimp only at hI
 have hil:=lX x k
 refine zD 5<|zJ 8 ((k:Int) <4) (fun h1=>?_) fun h1=>?_
 ·
  refine zD 7<|jai (l:=[zI x.w0,zI x.w1,zI x.w2,zI x.w3]) (k:Int) 4 1 false (by omega) (v:= zI (pI x k)) (auM (by omega))<|zD 8<|zJ 12 ((pI x k)>0) (fun h2=>?_) fun h2=>?_
  ·
   refine zD 5<|ja ((pI x k)-1) (by have:=hx k (by omega);omega) ?_
   refine jn fun b17=>jn fun xN=>iC (sz:=1) (ps:=es) (qs:=[(.slice (some ⟨b17,0,none⟩) 2 2:Value)]) (enc:=fH) (w:= .slice (some ⟨xN,0,none⟩) 1 1) [2] [0] [(xN,.cells ⟨([(.slice (some ⟨b17,0,none⟩) 2 2:Value)].map fH).flatten⟩ 22 (0,0))] (hI.2.1) (fun s _ hZ=>bK [(.slice (some ⟨b17,0,none⟩) 2 2:Value)] (hZ _ (.head _)) (by intro p hp;rfl)) (by intro p hp;rw[List.mem_singleton] at hp;subst hp;exact aj rfl) (by simp only[List.length_cons,List.length_nil];omega) (fun v19 L19 HC=>?_)
   obtain⟨atg,as4,axC⟩:=HC.form
   subst axC
   refine zD 3<|ja ((k:Int)+1) (by omega)<|zD 2<|LU bH (⟨k+1,(.slice atg ((es++[(.slice (some ⟨b17,0,none⟩) 2 2:Value)])).length as4),L19,(es++[(.slice (some ⟨b17,0,none⟩) 2 2:Value)]),Z++[(b17,.cells ⟨[zI (k:Int),zI ((pI x k)-1)]⟩ 3 (0,0))]⟩) ⟨⟨by dsimp only;omega,by dsimp only;rw[Fo (by assumption)];simp only[zM] at*;omega⟩,HC,fun aG hk=>by dsimp only;rw[Fo (by assumption)];exact(hI.2.2 aG hk.left).snoc (bU (enc:=cm) (T:=3) [(k:Int),pI x k-1] (hk.right _ (.head _)) (fun _ _=>rfl))⟩ (by dsimp only;omega) [[0],[3,2]] (Sub.refl _)
  refine zD 3<|ja ((k:Int)+1) (by omega)<|zD 2<|bI bH (⟨k+1,vO,LO,es,Z⟩) ⟨⟨by dsimp only;omega,by dsimp only;rw[Fp (by assumption)];exact hI.1.2⟩,hI.2.1,by dsimp only;rw[Fp (by assumption)];exact hI.2.2⟩ (by dsimp only;omega) [0,1] (Sub.refl _)
 refine zD 8<|zR (vO) [] [0,1] (LO++Z) (fun aG hk=>⟨es,hI.2.1.kg hk.left,by have:=hI.2.2 aG hk.right;rwa[show k=4 by omega] at this⟩)
theorem aET{v w:Value}{us:List Value}{U:List (List Int)}(hv:bD ro v 1 fH ws)(ha:de (fun w l=>bD ro w 1 cm l) ws W)(hw:bD ro w 1 fH us)(hb:de (fun w l=>bD ro w 1 cm l) us U)(hn:ws.length≤100∧us.length≤100)(hW:(∀l∈W,l.length≤1000)∧∀l∈U,l.length≤1000):dO zT 87 [v,w,.func (.func 88) ⟨[]⟩ ⟨[]⟩] ro [] (fun r Y=>Y=[]∧∃n:Int,r= zI n):=by
 obtain⟨I6,qvb,qvo,yf,rfl,qvk,Nb,Na⟩:=hv
 obtain⟨Qj,qwb,qwo,I5,rfl,qwk,qwh,qwl⟩:=hw
 refine zE<|zD 12<|dP [1,0,1,0,0] [] (fun(zz:Nat)=>[(0,.slice I6 ws.length yf),(1,.slice Qj us.length I5),(2,.func (.func 88) ⟨[]⟩ ⟨[]⟩),(11,.slice I6 ws.length yf),(12,zI (ws.length:Int)),(13,zI (zz:Int))]) (fun zz=>[]) (fun zz=>zz≤ws.length) (fun zz=>ws.length-zz) 0 (Nat.zero_le _) [] ?_
 rintro k hI K1 bH rest
 refine zD 5<|zJ 14 ((k:Int) <(ws.length:Int)) (fun h1=>?_) fun h1=>?_
 ·
  refine zD 7 ?_
  obtain⟨tE,iK⟩:=zG ws k
  refine ek yf 1 Nb iK ?_
  obtain⟨l17,ah7,V3⟩:=ha.get iK
  obtain abE:=hW.1 _ (zL ah7)
  obtain⟨aeV,aut,aup,aeU,rfl,aur,aus,auq⟩:=V3
  refine jl 0 (Na _ _ iK)<|zD 11<|zJ 21 ((k:Int)≥(us.length:Int)) (fun h2=>?_) fun h2=>?_
  ·
   refine zD 6<|zX (zI 1) ⟨rfl,_,rfl⟩
  refine zD 6 ?_
  obtain⟨x24,av1⟩:=zG us k
  refine ek I5 1 qwh av1 ?_
  obtain⟨l25,aRo,h25⟩:=hb.get av1
  obtain bea:=hW.2 _ (zL aRo)
  obtain⟨aC6,aNZ,aNV,aC5,rfl,aNX,aNY,aNW⟩:=h25
  refine jl 0 (qwl _ _ av1)<|zD 7<|jp (vs:=[.slice aeV l17.length aeU,.slice aC6 l25.length aC5]) [] [] (fun aI hs hZ=>aE5 ((show bD _ _ _ _ _ from ⟨aeV,aut,aup,aeU,rfl,aur,aus,auq⟩).up hs) ((show bD _ _ _ _ _ from ⟨aC6,aNZ,aNV,aC5,rfl,aNX,aNY,aNW⟩).up hs) (by omega) (by omega))<|zD 7<|js 31 (!decide ((uX l17 l25)=0)) (fun h3=>?_) (fun h3=>?_)
  ·
   replace h3:=of_decide_eq_false (by simpa using h3)
   refine zD 7<|zX (zI (uX l17 l25)) ⟨rfl,_,rfl⟩
  replace h3:=of_decide_eq_true (by simpa using h3)
  refine zD 3<|ja ((k:Int)+1) (by omega)<|zD 2<|bI bH (k+1) (by omega) (by omega) [] (Sub.refl _)
 refine zD 11<|zJ 38 ((ws.length:Int) <(us.length:Int)) (fun h4=>?_) fun h4=>?_
 ·
  refine zD 6<|zX (zI (-1)) ⟨rfl,_,rfl⟩
 refine zD 7<|zX (zI 0) ⟨rfl,_,rfl⟩
theorem jcO{X:Cx}{o:Option JS}{v:Value}{enc:α→List Value}{ps:List α}{lo:Int}(hs:bD X.ro v sz enc ps)(hl:0≤lo∧lo≤ps.length)(hj:∀v',bD X.ro v' sz enc (ps.drop lo.toNat)→J X (jO v' o))(hv:dA X.n (aeg X.P X.n) o=some (v,some lo,none,sz):=by kernel_rfl):J X o:=by
 obtain⟨a,b,off,cap,rfl,h2,h3,h4⟩:=id hs
 have hp:=bD.part hs (l:=lo.toNat) (h:=ps.length) (by omega) (Nat.le_refl _)
 rw[List.take_length] at hp
 refine Re hv (fun s p e _ hf=>?_) (hj _ hp)
 obtain⟨T,x,y,z,E,s1,bC,zz,ag,d,Aj,z2,ag2,ay,tf,p5,hx,hy,hz⟩:=MZ hf
 obtain⟨y,k,rfl,Ez⟩:=lU hy
 have hz:=xv hz;subst hz
 rcases p with ⟨dst,op,ty,pos,cZ,g⟩
 dsimp only at ay;subst ay
 intro s0 ops i r8 rest hw s' mU todo Q hk
 refine bR X.hC r8 hw (by simp) ?_
 have hb:(0:Int)≤(ps.length:Int)∧(ps.length:Int)≤(cap:Int):=by omega
 have fM:0≤lo∧lo≤(ps.length:Int):=hl
 rw[←aW] at hk
 simp only[execOp,Option.map_some,Option.map_none,Instr.sliceAt,Instr.slice,aF (aY (rest:=rest) hx),aF (aY (rest:=rest) Ez),aa,aZ tf,Instr.sliceBounds,Instr.sliceBound,asIntOf,ae,hb,fM,and_self,if_true,cg p5]
 exact hk
theorem Cu{x:ah}{l:List Int}(h:l∈cq x k):l.length=2:=by
 obtain⟨a,_,_,rfl⟩:=wh h;rfl
theorem Ms{zs:List ah}{x x2 w:ah}(h:∀y∈zs.take (k+1),x.gone≤y.gone)(hx:(zs.drop 1)[k]?=some w) (h1:x2.gone≤x.gone) (h2:x2.gone≤w.gone):∀y∈zs.take (k+1+1),x2.gone≤y.gone:=fun y hy=>by
 rw[List.getElem?_drop,Nat.add_comm] at hx
 rw[dF hx] at hy
 rcases List.mem_append.1 hy with hy|hy
 ·have:=h y hy;omega
 rw[List.mem_singleton.1 hy];exact h2
theorem SH{zs:List ah}{w:ah}(hx:(zs.drop 1)[k]?=some w):w∈zs:=List.mem_of_mem_drop (zL hx)
theorem aoa{f:Nat}{x y:ah}(hx:TrG x)(hy:TrG y):dO zT 57 [zP f,.agg ⟨[zI x.past,zI x.w0,zI x.w1,zI x.w2,zI x.w3,zI x.gone,zI x.new,zI x.af]⟩,.agg ⟨[zI y.past,zI y.w0,zI y.w1,zI y.w2,zI y.w3,zI y.gone,zI y.new,zI y.af]⟩] ro [] (fun r Y=>∃c:Bool,r= .bool c∧Y=[]∧(c=true→x.gone≤y.gone)∧(c=false→y.gone≤x.gone)):=by
 refine zE<|zD 2<|jn fun b4=>jn fun b5=>jd 13 [1,0]<|js 7 (!decide (x.gone=y.gone)) (fun h1=>?_) (fun h1=>?_)
 ·
  replace h1:=of_decide_eq_false (by simpa using h1)
  refine jd 11 [1,0]<|zX (.bool (decide (x.gone <y.gone))) ⟨_,rfl,rfl,(fun h=>by have:=of_decide_eq_true h;omega),fun h=>by have:=of_decide_eq_false h;omega⟩
 replace h1:=of_decide_eq_true (by simpa using h1)
 refine jd 10 [1,0]<|js 18 (!decide (x.af=y.af)) (fun h2=>?_) (fun h2=>?_)
 ·
  replace h2:=of_decide_eq_false (by simpa using h2)
  refine jd 11 [1,0]<|zX (.bool (decide (x.af <y.af))) ⟨_,rfl,rfl,(fun _=>by omega),fun _=>by omega⟩
 replace h2:=of_decide_eq_true (by simpa using h2)
 refine jd 8 [1,0]<|aV 2 fun BU B0 Ah=>jc (vs:=[.agg ⟨[zI x.w0,zI x.w1,zI x.w2,zI x.w3]⟩]) [] (UZ (x:=x) hx) ?_
 rintro v31 Y31 J5
 refine eH Ah [1,2]<|aV 5 fun yA yI x6=>jc (vs:=[.agg ⟨[zI y.w0,zI y.w1,zI y.w2,zI y.w3]⟩]) [] (UZ (x:=y) hy) ?_
 rintro v34 Y34 aiY
 refine eH x6 [1,2,3]<|aV 6 fun pW pZ oU=>jcL (vs:=[v31,v34,.func (.func 88) ⟨[]⟩ ⟨[]⟩]) [] [1,0] (Y31++Y34) (fun aI hs hZ=>(show dO _ _ _ _ _ _ from by obtain⟨ws,h1,h2⟩:=J5 _ hZ.left;obtain⟨us,h3,h4⟩:=aiY _ hZ.right;have l1:=lX x 4;have l2:=lX y 4;have l3:=h2.len;have l4:=h4.len;exact aET h1 h2 h3 h4 ⟨by omega,by omega⟩ ⟨fun l hl=>by rw[Cu hl];decide,fun l hl=>by rw[Cu hl];decide⟩)) ?_
 rintro _ _ ⟨rfl,n35,rfl⟩
 refine jg 0 []<|eH oU (zN 0 4)<|zD 4<|zX (.bool (decide (n35 <0))) ⟨_,rfl,rfl,(fun _=>by omega),fun _=>by omega⟩
theorem avy{v:Value}{zs:List ah}{fm:Nat}(hf:bD ro v 8 cE zs)(hn:0 <zs.length∧zs.length≤100000)(hr:∀x∈zs,TrG x):dO zT 56 [v,.func (.func 57) ⟨[zP fm]⟩ ⟨[]⟩] ro [] (fun r Y=>∃x,r= .agg ⟨cE x⟩∧Y=[]∧x∈zs∧∀y∈zs,x.gone≤y.gone):=by
 obtain⟨jA,BJ,BI,gY,rfl,I9,uM,uL⟩:=hf
 refine zE<|zD 2<|jn fun b4=>zD 4 ?_
 obtain⟨x9,Rj⟩:=zG zs 0
 refine ek gY 8 uM Rj<|jl 0 (uL _ _ Rj)<|jn fun b5=>jd 6 [0]<|jcO (lo:=1) (show bD _ _ _ _ _ from ⟨jA,BJ,BI,gY,rfl,I9,uM,uL⟩) (by omega) (fun v12 Vi=>?_)
 obtain⟨aCR,aWU,aWS,aqU,rfl,aWT,aCQ,aCP⟩:=Vi
 refine zD 4<|dP [1,1,0,1,0,0] [] (fun(zz:Nat×ah)=>[(1,.func (.func 57) ⟨[zP fm]⟩ ⟨[]⟩),(4,zP b4),(5,zP b5),(12,.slice aCR ((((zs).drop 1)).length) aqU),(13,zI ((((zs).drop 1)).length:Int)),(14,zI (zz.1:Int))]) (fun zz=>[.b b5 (.cells ⟨[zI zz.2.past,zI zz.2.w0,zI zz.2.w1,zI zz.2.w2,zI zz.2.w3,zI zz.2.gone,zI zz.2.new,zI zz.2.af]⟩ 128 (0,0)),.b b4 (.cells ⟨[zI 0,zI 0,zI 0,zI 0,zI 0,zI 0,zI 0,zI 0]⟩ 128 (0,0))]) (fun zz=>zz.1≤(zs.drop 1).length∧zz.2∈zs∧∀y∈zs.take (zz.1+1),zz.2.gone≤y.gone) (fun zz=>(zs.drop 1).length-zz.1) (⟨0,x9⟩) ⟨Nat.zero_le _,zL Rj,fun y hy=>by rw[Nat.zero_add,dF Rj] at hy;simp only[List.take_zero,List.nil_append,List.mem_singleton] at hy;rw[hy];exact Int.le_refl _⟩ [0,1] ?_
 rintro⟨k,x⟩ hI K1 bH rest
 dsimp only at hI
 have hdl:(zs.drop 1).length=zs.length-1:=List.length_drop
 refine zD 5<|zJ 15 ((k:Int) <((((zs).drop 1)).length:Int)) (fun h1=>?_) fun h1=>?_
 ·
  refine zD 6 ?_
  obtain⟨tE,iK⟩:=zG (((zs).drop 1)) k
  refine ek aqU 8 aCQ iK<|jl 0 (aCP _ _ iK)<|jn fun b7=>jd 7 [0,0,1]<|jc (vs:=[zP fm,.agg ⟨[zI tE.past,zI tE.w0,zI tE.w1,zI tE.w2,zI tE.w3,zI tE.gone,zI tE.new,zI tE.af]⟩,.agg ⟨[zI x.past,zI x.w0,zI x.w1,zI x.w2,zI x.w3,zI x.gone,zI x.new,zI x.af]⟩]) [] (aoa (f:=fm) (x:=tE) (y:=x) (hr _ (SH iK)) (hr _ hI.2.1)) ?_
  rintro _ _ ⟨c21,rfl,rfl,hc1,Pg⟩
  refine jg 0 []<|zD 1<|js 21 c21 (fun h2=>?_) (fun h2=>?_)
  ·
   refine jd 6 [0,1]<|ja ((k:Int)+1) (by omega)<|zD 2<|bI bH (⟨k+1,tE⟩) ⟨by dsimp only;omega,SH iK,Ms hI.2.2 iK (hc1 (by assumption)) (Int.le_refl _)⟩ (by dsimp only;omega) [1,2] (Sub.refl _)
  refine zD 3<|ja ((k:Int)+1) (by omega)<|zD 2<|bI bH (⟨k+1,x⟩) ⟨by dsimp only;omega,hI.2.1,Ms hI.2.2 iK (Int.le_refl _) (Pg (by assumption))⟩ (by dsimp only;omega) [1,2] (Sub.refl _)
 refine jd 8 [0,1]<|zR (.agg ⟨[zI x.past,zI x.w0,zI x.w1,zI x.w2,zI x.w3,zI x.gone,zI x.new,zI x.af]⟩) [1] [] [] ⟨x,rfl,rfl,hI.2.1,by have:=hI.2.2;rwa[List.take_of_length_le (by omega)] at this⟩
theorem an6{x:ah}:dv zT 60 [.agg ⟨[zI x.past,zI x.w0,zI x.w1,zI x.w2,zI x.w3,zI x.gone,zI x.new,zI x.af]⟩] ro (zI x.gone):=by
 refine zE<|zD 2<|jn fun b1=>jd 9 [0]<|zX (zI x.gone) ⟨rfl,rfl⟩
theorem agF{rows:List bE}(hK:fI ro l K)(hV:eE K)(hR:rows.length≤2)(hB:gL ro l K rows):Dh zT 59 [.agg ⟨l⟩,.func (.func 60) ⟨[]⟩ ⟨[]⟩] ro [] (fun r Y=>∃zs a b e,zs.Perm (cA K (aC K) (bM K.gone K.new K.af) rows)∧Y=[]∧r= .tuple ⟨[.agg ⟨[zI a,zI b]⟩,zI e]⟩∧((zs=[]∧a=0∧b=0∧e=9)∨(zs≠[]∧a=qe (zs.map fun x=>x.gone)∧b=vZ (zs.map fun x=>x.gone)∧e=0))):=by
 obtain⟨v0,v1,v3,v4,v5,v6,v7,vb,fa,fc,hv,rfl,_⟩:=id hK
 refine AZ au [] [] ba fun fr=>zD 2<|jn fun b2=>jn fun b4=>jd 5 [1]<|agY (vs:=[.agg ⟨[v0,v1,.slice fa 0 fc,v3,v4,v5,v6,v7,zI K.gone,zI K.new,zI K.af,vb]⟩]) [] (fun _ _ h=>h) (Ra hK hV hR hB) ?_
 rintro _ aI Y14 bZ ⟨f14,zs,v14,Fy,rfl,BP,hz,NY,he⟩
 have NW:∀x∈zs,(-4≤x.gone∧x.gone≤4)∧(-4≤x.new∧x.new≤4)∧(0≤x.af∧x.af≤4):=fun x hx=>by obtain⟨i,r,p,_,_,rfl,_⟩:=dV (hz.mem_iff.1 hx);exact lV hV r i p
 have Yy:zs.length≤1250:=by rw[hz.length_eq];exact mQ hV _ _ hR
 refine zD 7<|jf [0] Y14 (fun ro4 mw Pe=>?_)
 have hZ1:=NY.kg Pe
 obtain⟨rR,JL,JJ,pz,rfl,JK,Cd,Cc⟩:=hZ1
 refine zD 7<|js 19 (!decide (Fy=0)) (fun h5=>?_) (fun h5=>?_)
 ·
  replace h5:=of_decide_eq_false (by simpa using h5)
  have pq:zs=[]∧Fy=9:=by rcases he with h| ⟨_,h⟩;exact h;omega
  refine jd 9 [0]<|abh qC.a.a (.tuple ⟨[.agg ⟨[zI 0,zI 0]⟩,zI Fy]⟩) [0] [2] [] (bZ.trans mw) ⟨zs,_,_,_,hz,rfl,rfl,.inl ⟨pq.1,rfl,rfl,pq.2⟩⟩
 replace h5:=of_decide_eq_true (by simpa using h5)
 have pq:zs≠[]∧Fy=0:=by rcases he with ⟨_,h⟩|h;omega;exact h
 have hzp:0 <zs.length:=List.length_pos_iff.2 pq.1
 refine zD 14<|nY<|dP [1,1,1,1,0,1,0,0] [] (fun(zz:Nat×Value×Cells)=>[(1,.func (.func 60) ⟨[]⟩ ⟨[]⟩),(4,zP b4),(5,zI 0),(9,zz.2.1),(22,.slice rR zs.length pz),(23,zI (zs.length:Int)),(24,zI (zz.1:Int))]) (fun zz=>[.l zz.2.2,.b b4 (.cells ⟨[zI 0,zI 0]⟩ 65 (0,0)),.b b2 (.cells ⟨[v0,v1,.slice fa 0 fc,v3,v4,v5,v6,v7,zI K.gone,zI K.new,zI K.af,vb]⟩ 40 (0,0)),.l fr]) (fun zz=>zz.1≤zs.length∧ax zz.2.1 1 3 cm ((zs.take zz.1).map fun x=>x.gone) zz.2.2) (fun zz=>zs.length-zz.1) (⟨0,zS,[]⟩) ⟨by dsimp only;omega,ax.nil _ _ _⟩ (zN 0 4) ?_
 rintro⟨k,vS,LS⟩ hI K1 bH rest
 dsimp only at hI
 refine zD 5<|zJ 25 ((k:Int) <(zs.length:Int)) (fun h6=>?_) fun h6=>?_
 ·
  refine zD 6 ?_
  obtain⟨Ap,JW⟩:=zG zs k
  refine ek pz 8 Cd JW<|jl 0 (Cc _ _ JW)<|jn fun S2=>jd 6 [0,0]<|jp (vs:=[.agg ⟨[zI Ap.past,zI Ap.w0,zI Ap.w1,zI Ap.w2,zI Ap.w3,zI Ap.gone,zI Ap.new,zI Ap.af]⟩]) [] [] (fun aI hs hZ=>(an6 (x:=Ap)))<|jn fun b32=>iC (sz:=1) (ps:=((zs.take k).map fun x=>x.gone)) (qs:=[Ap.gone]) (enc:=cm) (w:= .slice (some ⟨b32,0,none⟩) 1 1) [2] [0] [(b32,.cells ⟨([Ap.gone].map cm).flatten⟩ 3 (0,0))] (hI.2) (fun s _ hZ=>bK [Ap.gone] (hZ _ (.head _)) (by intro p hp;rfl)) (fun p _=>aj rfl) (by simp only[List.length_map,List.length_take,List.length_cons,List.length_nil];omega) (fun v33 L33 Hz=>?_)
  obtain⟨atd,as1,axy⟩:=Hz.form
  subst axy
  refine zD 3<|ja ((k:Int)+1) (by omega)<|zD 2<|bI bH (⟨k+1,(.slice atd ((((zs.take k).map fun x=>x.gone)++[Ap.gone])).length as1),L33⟩) ⟨by dsimp only;omega,by rw[gE JW,List.map_append];exact Hz⟩ (by dsimp only;omega) [0,3,4,5] (Sub.refl _)
 refine zD 5<|jp (vs:=[vS]) [0] LS (fun aI hs hZ=>agE (hI.2.kg hZ) ⟨by simp only[List.length_map,List.length_take];omega,by simp only[List.length_map,List.length_take];omega⟩) ?_
 refine jd 4 [1]<|abh qC.a.a (.tuple ⟨[.agg ⟨[zI (qe ((zs.take k).map fun x=>x.gone)),zI (vZ ((zs.take k).map fun x=>x.gone))]⟩,zI 0]⟩) [1] [3] [] (bZ.trans mw) ⟨zs,_,_,_,hz,rfl,rfl,.inr ⟨pq.1,by rw[show k=zs.length by omega,List.take_length],by rw[show k=zs.length by omega,List.take_length],rfl⟩⟩
theorem avx{rows:List bE}(hK:fI ro l K)(hV:eE K)(hR:rows.length≤2)(hB:gL ro l K rows):Dh zT 20 [.agg ⟨l⟩] ro [] (fun r Y=>∃zs a b e,zs.Perm (cA K (aC K) (bM K.gone K.new K.af) rows)∧Y=[]∧r= .tuple ⟨[.agg ⟨[zI a,zI b]⟩,zI e]⟩∧((zs=[]∧a=0∧b=0∧e=9)∨(zs≠[]∧a=qe (zs.map fun x=>x.gone)∧b=vZ (zs.map fun x=>x.gone)∧e=0))):=by
 obtain⟨v0,v1,v3,v4,v5,v6,v7,vb,fa,fc,hv,rfl,_⟩:=id hK
 refine AZ au [] [] ba fun fr=>zD 2<|jn fun b1=>jn fun b2=>jd 5 [1]<|NJ (vs:=[.agg ⟨[v0,v1,.slice fa 0 fc,v3,v4,v5,v6,v7,zI K.gone,zI K.new,zI K.af,vb]⟩,.func (.func 60) ⟨[]⟩ ⟨[]⟩]) [] (fun _ _ h=>h) (agF hK hV hR hB) ?_
 rintro _ _ ⟨zs,a5,c5,e5,hz,rfl,rfl,he⟩
 refine jg 0 []<|jd 6 [0]<|abh qC (.tuple ⟨[.agg ⟨[zI a5,zI c5]⟩,zI e5]⟩) [0] [2] [] (Sub.refl _) ⟨zs,_,_,_,hz,rfl,rfl,he⟩
theorem avE{rows:List bE}(hK:fI ro l K)(hV:eE K)(hR:rows.length≤2)(hB:gL ro l K rows):Dh zT 19 [.agg ⟨l⟩] ro [] (fun r Y=>∃zs v e,zs.Perm (cA K (aC K) (bM K.gone K.new K.af) rows)∧r= .tuple ⟨[v,zI e]⟩∧((zs=[]∧v= zS∧e=9∧Y=[])∨(e=0∧∃x,x∈zs∧(∀y∈zs,x.gone≤y.gone)∧∀aG,Knows aG Y→LL aG v (cq x 4)))):=by
 obtain⟨v0,v1,v3,v4,v5,v6,v7,vb,fa,fc,hv,rfl,_⟩:=id hK
 refine AZ au [] [] ba fun fr=>zD 2<|jn fun b1=>jd 6 [0]<|agY (vs:=[.agg ⟨[v0,v1,.slice fa 0 fc,v3,v4,v5,v6,v7,zI K.gone,zI K.new,zI K.af,vb]⟩]) [] (fun _ _ h=>h) (Ra hK hV hR hB) ?_
 rintro _ aI Y9 bZ ⟨f9,zs,v9,e9,rfl,BP,hz,ho9,he⟩
 have NW:∀x∈zs,(-4≤x.gone∧x.gone≤4)∧(-4≤x.new∧x.new≤4)∧(0≤x.af∧x.af≤4):=fun x hx=>by obtain⟨i,r,p,_,_,rfl,_⟩:=dV (hz.mem_iff.1 hx);exact lV hV r i p
 have Yy:zs.length≤1250:=by rw[hz.length_eq];exact mQ hV _ _ hR
 have hpr:∀x∈zs,∀q,0≤pI x q∧pI x q≤4:=fun x hx=>by obtain⟨i,r,p,_,hp,rfl,_⟩:=dV (hz.mem_iff.1 hx);exact Fj ((iP hV _).2 p hp)
 obtain⟨d0,d1,d2,d3,d4,d5,d6,d7,d8,d9,dh,hf,pR,nj,hr,CN,HR,J2,bV⟩:=id BP
 obtain⟨lg,JD,JB,ky,rfl,JC,Eo,En⟩:=CN
 obtain⟨lj,JI,JG,kz,rfl,JH,Es,Ep⟩:=HR
 have BK:=hV.before.1
 have EJ:=hV.after.1
 refine zD 7<|jf [0] Y9 (fun ro4 mw Pe=>?_)
 have hZ1:=ho9.kg Pe
 obtain⟨rR,JL,JJ,pz,rfl,JK,Cd,Cc⟩:=hZ1
 refine zD 7<|js 14 (!decide (e9=0)) (fun h5=>?_) (fun h5=>?_)
 ·
  replace h5:=of_decide_eq_false (by simpa using h5)
  have pq:zs=[]∧e9=9:=by rcases he with h| ⟨_,h⟩;exact h;omega
  refine zD 8<|O8 qC.a.a (.tuple ⟨[zS,zI e9]⟩) [1] [] (bZ.trans mw) ⟨zs,_,_,hz,rfl,.inl ⟨pq.1,rfl,pq.2,rfl⟩⟩
 replace h5:=of_decide_eq_true (by simpa using h5)
 have pq:zs≠[]∧e9=0:=by rcases he with ⟨_,h⟩|h;omega;exact h
 have hzp:0 <zs.length:=List.length_pos_iff.2 pq.1
 refine zD 7<|jc (vs:=[.slice rR zs.length pz,.func (.func 57) ⟨[zP f9]⟩ ⟨[]⟩]) [] (avy (fm:=f9) (show bD _ _ _ _ _ from ⟨rR,JL,JJ,pz,rfl,JK,Cd,Cc⟩) ⟨by omega,by omega⟩ (fun x hx c _=>hpr x hx c)) ?_
 rintro _ _ ⟨yc,rfl,rfl,ui,aRg⟩
 refine jg 0 []<|zD 1<|jc (vs:=[.agg ⟨[zI yc.w0,zI yc.w1,zI yc.w2,zI yc.w3]⟩]) [] (UZ (x:=yc) (fun c _=>hpr yc ui c)) ?_
 rintro v21 Y21 abP
 refine zD 4<|O8 qC.a.a (.tuple ⟨[v21,zI 0]⟩) [0,2] Y21 (bZ.trans mw) ⟨zs,_,_,hz,rfl,.inr ⟨rfl,yc,ui,aRg,abP⟩⟩
theorem aqV{R:α→α→Prop}{l:List α}(h:l.Pairwise R){x y:α}(BN:i <j)(hx:l[i]?=some x) (hy:l[j]?=some y):R x y:=by
 obtain⟨h1,rfl⟩:=List.getElem?_eq_some_iff.1 hx
 obtain⟨h2,rfl⟩:=List.getElem?_eq_some_iff.1 hy
 exact List.pairwise_iff_getElem.1 h i j h1 h2 BN
structure ZV(K:aB)(L:List (List Int))(A B:Nat→Nat):Prop where
 is:∀i l,L[i]?=some l→l=[(A i:Int),(B i:Int)]∧A i <K.before.length∧B i <K.after.length∧dN K (aC K) (A i) (B i) 3=[]
 up:∀i j,i <j→j <L.length→A i <A j
 apart:∀i j,i <j→j <L.length→B i≠B j
theorem akL{x:ah}(hf:K.facts.length≤4)(hb:K.before.length≤4)(hx:x∈cA K (aC K) (bM K.gone K.new K.af) (cU K)):∃A B:Nat→Nat,ZV K (cq x 4) A B:=by
 have key:∀i l,(cq x 4)[i]?=some l→l=[((YY l).toNat:Int),((hd1 l).toNat:Int)]∧(YY l).toNat <K.before.length∧(hd1 l).toNat <K.after.length∧dN K (aC K) (YY l).toNat (hd1 l).toNat 3=[]∧pI x (YY l).toNat=hd1 l+1∧0≤YY l∧0≤hd1 l∧YY l <4:=fun i l hl=>by
  obtain⟨a,ha,hp,rfl⟩:=wh (zL hl)
  have e:pI x a=(((pI x a-1).toNat:Nat):Int)+1:=by omega
  obtain⟨h1,h2,h3⟩:=akM hf hb hx ha e
  have q0:YY [(a:Int),pI x a-1]=a:=rfl
  have q1:hd1 [(a:Int),pI x a-1]=pI x a-1:=rfl
  rw[q0,q1,Int.toNat_natCast]
  exact⟨by rw[show (((pI x a-1).toNat:Nat):Int)=pI x a-1 by omega],h1,h2,ako hf h3,by omega,by omega,by omega,by omega⟩
 refine⟨fun i=>(YY ((cq x 4)[i]?.getD [])).toNat,fun i=>(hd1 ((cq x 4)[i]?.getD [])).toNat,fun i l hl=>?_,fun i j BN hj=>?_,fun i j BN hj=>?_⟩
 ·rw[hl,Option.getD_some]
  have:=key i l hl
  exact⟨this.1,this.2.1,this.2.2.1,this.2.2.2.1⟩
 ·obtain⟨l,hl⟩:∃l,(cq x 4)[i]?=some l:=⟨_,List.getElem?_eq_getElem (by omega)⟩
  obtain⟨m,hm⟩:∃l,(cq x 4)[j]?=some l:=⟨_,List.getElem?_eq_getElem hj⟩
  rw[hl,hm,Option.getD_some,Option.getD_some]
  have h1:=(key i l hl).2.2.2.2.2.1
  have h2:=aqV (xz x 4) BN hl hm
  omega
 obtain⟨l,hl⟩:∃l,(cq x 4)[i]?=some l:=⟨_,List.getElem?_eq_getElem (by omega)⟩
 obtain⟨m,hm⟩:∃l,(cq x 4)[j]?=some l:=⟨_,List.getElem?_eq_getElem hj⟩
 rw[hl,hm,Option.getD_some,Option.getD_some]
 intro e
 obtain⟨_,_,_,_,p1,a1,b1,c1⟩:=key i l hl
 obtain⟨_,_,_,_,p2,a2,b2,c2⟩:=key j m hm
 have h2:=aqV (xz x 4) BN hl hm
 obtain⟨i,r,q,_,hq,rfl,_⟩:=dV hx
 rw[kF (by omega)] at p1 p2
 have h:=((fg hf hb).1 hq).2.1 (YY m).toNat (YY l).toNat (by omega) (by omega)
 omega
theorem anb{L:List (List Int)}{A:Nat→Nat}(h:ZV K L A B):L.length≤K.before.length:=by
 have key:∀i,i <L.length→i≤A i:=fun i=>by
  induction i with
  |zero=>exact fun _=>Nat.zero_le _
  |succ i ih=>exact fun hi=>by have:=ih (by omega);have:=h.up i (i+1) (by omega) hi;omega
 by_cases e:L.length=0
 ·omega
 obtain⟨l,hl⟩:∃l,L[L.length-1]?=some l:=⟨_,List.getElem?_eq_getElem (by omega)⟩
 have:=key (L.length-1) (by omega)
 have:=(h.is _ l hl).2.1
 omega
theorem akN{x:ah}(hx:x∈cA K (aC K) (bM K.gone K.new K.af) (cU K)):((cq x 4).length:Int)=K.before.length-x.gone:=by
 obtain⟨i,r,q,_,_,rfl,_⟩:=dV hx
 rw[af5]
 simp only[bx]
 omega
theorem auV{zs ws ys:List ah}{x:ah}(h1:zs.Perm ys)(h2:ws.Perm ys)(hx:x∈zs)(hm:∀y∈zs,x.gone≤y.gone):qe (ws.map fun y=>y.gone)=x.gone:=by
 have hxw:=(h1.trans h2.symm).mem_iff.1 hx
 obtain⟨y,hy,e⟩:=List.mem_map.1 (GW (Fi (f:=fun y:ah=>y.gone) (List.ne_nil_of_mem hxw)))
 have a:=hm y ((h1.trans h2.symm).mem_iff.2 hy)
 have b:=Fg (List.mem_map_of_mem (f:=fun y:ah=>y.gone) hxw)
 omega
theorem PM{L:List (List Int)}{l m:List Int}{a b:Int}(hl:L[i]?=some l) (hm:L[i]?=some m) (ha:l[0]?=some a) (hb:m[1]?=some b):qP (L.take (i+1))=qP (L.take i)++[⟨a,b,true⟩]:=by
 have e:l=m:=Option.some.inj (hl.symm.trans hm)
 subst e
 rw[gE hl,qP,qP,List.map_append]
 simp only[List.map_cons,List.map_nil,YY,hd1,ha,hb,Option.getD_some]
theorem apF{x:ah}{m:Nat}{u w:cu}(hf:K.facts.length≤4)(hb:K.before.length≤4)(hr:∀t∈K.facts,(0≤t.a∧t.a <K.before.length)∧(0≤t.b∧t.b <K.after.length))(hx:x∈cA K (aC K) (bM K.gone K.new K.af) (cU K))(ht:K.facts[m]?=some t) (hu:K.facts[m]?=some u) (hw:K.facts[m]?=some w) (hs:t.same=true):uV (cq x 4) u.a w.b=true:=by
 have e1:t=u:=Option.some.inj (ht.symm.trans hu)
 have e2:t=w:=Option.some.inj (ht.symm.trans hw)
 subst e1;subst e2
 have h:=hr t (zL ht)
 exact CQ.2 (WG hf hb hx (zL ht) hs (by omega) h.2.1)
theorem jv.bst{x:ah}{A:Nat→Nat}(h:jv K)(hp:ZV K (cq x 4) A B)(hg:0≤x.gone∧x.gone≤4):jv (nS K x x.gone):=
 ⟨h.oO,h.ways,h.da,h.rules,h.before,h.after,⟨hg,h.ud.2⟩,⟨by show (qP (cq x 4)).length≤4;rw[qP,List.length_map];exact lX x 4,fun t ht=>by
  obtain⟨l,hl,rfl⟩:=List.mem_map.1 ht
  obtain⟨i,hi⟩:=List.getElem?_of_mem hl
  obtain⟨rfl,h1,h2,_⟩:=hp.is i l hi
  exact⟨⟨Int.natCast_nonneg _,Int.ofNat_lt.2 h1⟩,⟨Int.natCast_nonneg _,Int.ofNat_lt.2 h2⟩⟩⟩,List.pairwise_map.2 ((xz x 4).imp fun {a b} zh e=>by have:=e.1;simp only at this;omega)⟩
theorem eE.bst{x:ah}{A:Nat→Nat}(h:eE K)(hp:ZV K (cq x 4) A B):eE (nS K x x.gone):=
 ⟨h.rules,h.before,h.after,h.da,⟨by show (qP (cq x 4)).length≤4;rw[qP,List.length_map];exact lX x 4,fun t ht=>by
  obtain⟨l,hl,rfl⟩:=List.mem_map.1 ht
  obtain⟨i,hi⟩:=List.getElem?_of_mem hl
  obtain⟨rfl,h1,h2,_⟩:=hp.is i l hi
  exact⟨⟨Int.natCast_nonneg _,Int.ofNat_lt.2 h1⟩,⟨Int.natCast_nonneg _,Int.ofNat_lt.2 h2⟩⟩⟩⟩
theorem pr0{l:List Int}{a b:Int}(h:l=[a,b])(hx:l[0]?=some x):x=a:=by subst h;exact(Option.some.inj hx).symm
theorem pr1{l:List Int}{a b:Int}(h:l=[a,b])(hx:l[1]?=some x):x=b:=by subst h;exact(Option.some.inj hx).symm
theorem ack{rows:List bE}{r:Value}{Y:Cells}(h:∃zs v e,zs.Perm (cA K (aC K) (bM K.gone K.new K.af) rows)∧r= .tuple ⟨[v,zI e]⟩∧((zs=[]∧v= zS∧e=9∧Y=[])∨(e=0∧∃x,x∈zs∧(∀y∈zs,x.gone≤y.gone)∧∀aG,Knows aG Y→LL aG v (cq x 4)))):∃zs v e,zs.Perm (cA K (aC K) (bM K.gone K.new K.af) rows)∧r= .tuple ⟨[v,zI e]⟩∧∃W,(∀aG,Knows aG Y→LL aG v W)∧((zs=[]∧W=[]∧e=9)∨(e=0∧∃x,x∈zs∧(∀y∈zs,x.gone≤y.gone)∧W=cq x 4)):=by
 obtain⟨zs,v,e,hz,rfl,⟨h1,rfl,rfl,rfl⟩| ⟨rfl,x,hx,hm,hL⟩⟩:=h
 ·exact⟨zs,_,_,hz,rfl,[],fun aG hk=>⟨[],(ax.nil 1 22 fH).kg hk,.nil⟩,.inl ⟨h1,rfl,rfl⟩⟩
 exact⟨zs,_,_,hz,rfl,_,hL,.inr ⟨rfl,x,hx,hm,rfl⟩⟩
set_option maxHeartbeats 2000000 in
theorem agR (hK:fI ro l K) (hO:jv K):dO zT 10 [.agg ⟨l⟩] ro [] (fun r Y=>∃(v0 v1 v3 v4 v5 v6 v7 vb:Value) (fa:Option Addr) (fc:Nat) (LF Z:Cells),r= .agg ⟨[v0,v1,.slice fa 0 fc,v3,v4,v5,v6,v7,zI K.gone,zI K.new,zI K.af,vb]⟩∧(∀v∈[v0,v1,v3,v4,v5,v6,v7,vb],single v=true)∧ax vb 3 58 mX K.facts LF∧(∀aG,Sub ro aG→Knows aG Z→∀(vf:Value) (fs:List cu) (g:Int),bD aG vf 3 mX fs→fI aG [v0,v1,.slice fa 0 fc,v3,v4,v5,v6,v7,zI g,zI K.new,zI K.af,vf] {K with facts:=fs,gone:=g})∧Y=LF++Z):=by
 obtain⟨vS,vT,vc,vh,vr,vb,va,vf,fa,fc,hv,rfl,hS,hT,pR,nj,hr,hb,ha,hf⟩:=hK
 obtain⟨ib,hs,fq⟩:=id hS
 obtain⟨iM,ht,eY⟩:=id hT
 obtain⟨hc,hh,DU⟩:=id pR
 obtain⟨mh,Ux,Uv,ld,rfl,Uw,Ng,Nf⟩:=hs
 obtain⟨eS,AI,AG,dW,rfl,AH,sA,sw⟩:=ht
 obtain⟨ep,AK,AJ,dZ,rfl,Dx,yR,yQ⟩:=hc
 obtain⟨dH,u5,u4,du,rfl,xp,qR,qQ⟩:=hh
 obtain⟨kR,I8,I7,kQ,rfl,O3,Gw,Gv⟩:=hr
 obtain⟨lh,O6,O4,kY,rfl,O5,Nk,Nj⟩:=hb
 obtain⟨kS,KU,KS,kA,rfl,KT,JF,JE⟩:=ha
 obtain⟨jA,BJ,BI,gY,rfl,I9,uM,uL⟩:=hf
 have CM:=hO.rules
 have qO:=hO.before.1
 have Pd:=hO.after.1
 have N0:=hO.facts.1
 have Pc:=hO.ways.1
 have Jh:=fq.len
 have EK:=eY.len
 have YO:=hO.oO.two
 have hl9:=hO.da.nh
 have O2:∀(i:Nat) (p:db),([]:List db)[i]?=some p→cB ⟨ro,[]⟩ 0 (0+i*6) 6 (mN p):=fun _ _ h=>oz h
 refine zE<|zD 2<|jn fun b1=>jn fun b2=>zD 3<|jn fun b6=>jd 3 [2]<|iC (sz:=6) (ps:=[]) (qs:=([]:List db)) (enc:=mN) (w:= .slice fa 0 fc) [0] [] [] (bA (b:=b6) (T:=267)) (fun s he _=>⟨fa,0,0,fc,rfl,(fun _ h=>absurd h (Nat.not_lt_zero _)),fun i p hp=>(O2 i p hp).ext he⟩) (fun p _=>aj rfl) (by simp<;>omega) (fun v10 L10 HD=>?_)
 rw[List.nil_append] at HD
 obtain⟨yH,yF,axE⟩:=HD.form
 subst axE
 refine zD 1<|jn fun b3=>jd 8 [0]<|nY<|nY<|dP [1,1,0,1,0,0] [] (fun(zz:Nat×Value×Cells×(List Value)×Cells)=>[(1,zP b1),(2,zP b2),(3,zP b3),(4,zI (zz.1:Int))]) (fun zz=>[.b b3 (.cells ⟨[zz.2.1,zS,(.slice yH (([]:List db)).length yF)]⟩ 31 (0,0)),.l zz.2.2.1,.l zz.2.2.2.2,.l L10,.b b2 (.cells ⟨zO⟩ 40 (0,0)),.b b1 (.cells ⟨[.slice mh ib.length ld,.slice eS iM.length dW,.slice fa 0 fc,.slice ep K.cs.length dZ,.slice dH hv.length du,.slice kR K.rules.length kQ,.slice lh K.before.length kY,.slice kS K.after.length kA,zI K.gone,zI K.new,zI K.af,.slice jA K.facts.length gY]⟩ 40 (0,0))]) (fun zz=>(zz.1≤ib.length∧zz.2.2.2.1.length=zz.1)∧ax zz.2.1 1 80 fH zz.2.2.2.1 zz.2.2.1∧∀aG,Knows aG zz.2.2.2.2→de (fun w l=>bD aG w 2 cL l) zz.2.2.2.1 (K.str.take zz.1)) (fun zz=>ib.length-zz.1) (⟨0,zS,[],[],[]⟩) ⟨⟨by omega,rfl⟩,ax.nil _ _ _,fun _ _=> .nil⟩ [2,1,0,3,4,5] ?_
 rintro⟨i,v0,L0,ps,Z⟩ hI K1 bH rest
 dsimp only at hI
 refine jd 11 [5]<|zJ 18 ((i:Int) <(ib.length:Int)) (fun h1=>?_) fun h1=>?_
 ·
  refine jd 13 [0,5] ?_
  obtain⟨od,iW⟩:=zG ib i
  refine ek ld 1 Ng iW ?_
  obtain⟨Q5,ah6,h31⟩:=fq.get iW
  obtain aRe:=hO.oO.len _ (zL ah6)
  obtain⟨aeM,aul,aui,aeL,rfl,aNP,auk,auj⟩:=h31
  refine jl 0 (Nf _ _ iW)<|aV 3 fun yA yI x6=>jn fun IS=>eH x6 (zN 1 6)<|aV 11 fun pW pZ oU=>iC (sz:=2) (ps:=[]) (qs:=Q5) (enc:=cL) (w:= .slice aeM Q5.length aeL) [0] [] [] (bA (b:=IS) (T:=79)) (fun s he _=>⟨aeM,aul,aui,aeL,rfl,auk,fun i p hp=>(auj i p hp).ext he⟩) (fun p _=>aj rfl) (by simp<;>omega) (fun v32 L32 y9=>?_)
  rw[List.nil_append] at y9
  obtain⟨yG,yE,Vz⟩:=y9.form
  subst Vz
  refine gM oU [[6],[1]]<|aV 12 fun rI rK qu=>jn fun b33=>eH qu (zN 1 7)<|aV 13 fun An Ay Ba=>iC (sz:=1) (ps:=ps) (qs:=[((.slice yG (Q5).length yE):Value)]) (enc:=fH) (w:= .slice (some ⟨b33,0,none⟩) 1 1) [3] [0] [(b33,.cells ⟨([((.slice yG (Q5).length yE):Value)].map fH).flatten⟩ 80 (0,0))] (hI.2.1) (fun s _ hZ=>bK [((.slice yG (Q5).length yE):Value)] (hZ _ (.head _)) (by intro p hp;rfl)) (by intro p hp;rw[List.mem_singleton] at hp;subst hp;exact aj rfl) (by simp<;>omega) (fun v34 L34 Hy=>?_)
  obtain⟨TV,TO,Vy⟩:=Hy.form
  subst Vy
  refine gM Ba [[7]]<|zD 2<|aV 16 fun ZY aai VN=>jd 1 [3]<|gM VN []<|zD 3<|ja ((i:Int)+1) (by omega)<|zD 2<|LU bH (⟨i+1,(.slice TV ((ps++[((.slice yG (Q5).length yE):Value)])).length TO),L34,(ps++[((.slice yG (Q5).length yE):Value)]),L32++Z⟩) ⟨⟨by dsimp only;omega,by simp only[zM];omega⟩,Hy,fun aG hk=>pU (hI.2.2 aG hk.right) ah6 (y9.kg hk.left)⟩ (by omega) [[3],[0],[2,4],[5],[6],[7]] (Sub.refl _)
 refine zD 8<|nY<|nY<|dP [1,1,1,0,1,0,0] [] (fun(zz:Nat×Value×Cells×(List Value)×Cells)=>[(1,zP b1),(2,zP b2),(3,zP b3),(5,zI (zz.1:Int))]) (fun zz=>[.b b3 (.cells ⟨[v0,zz.2.1,(.slice yH (([]:List db)).length yF)]⟩ 31 (0,0)),.l zz.2.2.1,.l zz.2.2.2.2,.l L0,.l Z,.l L10,.b b2 (.cells ⟨zO⟩ 40 (0,0)),.b b1 (.cells ⟨[.slice mh ib.length ld,.slice eS iM.length dW,.slice fa 0 fc,.slice ep K.cs.length dZ,.slice dH hv.length du,.slice kR K.rules.length kQ,.slice lh K.before.length kY,.slice kS K.after.length kA,zI K.gone,zI K.new,zI K.af,.slice jA K.facts.length gY]⟩ 40 (0,0))]) (fun zz=>(zz.1≤iM.length∧zz.2.2.2.1.length=zz.1)∧ax zz.2.1 1 87 fH zz.2.2.2.1 zz.2.2.1∧∀aG,Knows aG zz.2.2.2.2→de (fun w l=>bD aG w 7 kM l) zz.2.2.2.1 (K.ways.take zz.1)) (fun zz=>iM.length-zz.1) (⟨0,zS,[],[],[]⟩) ⟨⟨by omega,rfl⟩,ax.nil _ _ _,fun _ _=> .nil⟩ [2,1,0,3,4,5,6,7] ?_
 rintro⟨j,v1,L1,qs,Z1⟩ hG K7 Y6 rest
 dsimp only at hG
 refine jd 10 [7]<|zJ 42 ((j:Int) <(iM.length:Int)) (fun h7=>?_) fun h7=>?_
 ·
  refine jd 11 [0,7] ?_
  obtain⟨x52,wq⟩:=zG iM j
  refine ek dW 1 sA wq<|zD 1 ?_
  obtain⟨UU,ah5,h54⟩:=eY.get wq
  obtain aRa:=(hO.ways.2 _ (zL ah5)).1.2
  obtain⟨aeK,auh,aue,aeJ,rfl,aNE,aug,auf⟩:=h54
  refine jl 0 (sw _ _ wq)<|aV 2 fun TD TZ VL=>jn fun b47=>eH VL (zN 1 8)<|aV 10 fun TB TY R9=>iC (sz:=7) (ps:=[]) (qs:=UU) (enc:=kM) (w:= .slice aeK UU.length aeJ) [0] [] [] (bA (b:=b47) (T:=83)) (fun s he _=>⟨aeK,auh,aue,aeJ,rfl,aug,fun i p hp=>(auf i p hp).ext he⟩) (fun p _=>aj rfl) (by simp<;>omega) (fun v55 L55 y8=>?_)
  rw[List.nil_append] at y8
  obtain⟨FQ,FN,axt⟩:=y8.form
  subst axt
  refine gM R9 [[8],[1]]<|zD 1<|aV 12 fun Dj Ds uv=>jn fun b57=>eH uv (zN 1 9)<|aV 13 fun FD Gc zi=>iC (sz:=1) (ps:=qs) (qs:=[((.slice FQ (UU).length FN):Value)]) (enc:=fH) (w:= .slice (some ⟨b57,0,none⟩) 1 1) [3] [0] [(b57,.cells ⟨([((.slice FQ (UU).length FN):Value)].map fH).flatten⟩ 87 (0,0))] (hG.2.1) (fun s _ hZ=>bK [((.slice FQ (UU).length FN):Value)] (hZ _ (.head _)) (by intro p hp;rfl)) (by intro p hp;rw[List.mem_singleton] at hp;subst hp;exact aj rfl) (by simp<;>omega) (fun v58 L58 Hu=>?_)
  obtain⟨TU,TN,HK⟩:=Hu.form
  subst HK
  refine gM zi [[9]]<|zD 1<|aV 15 fun Pt PT CV=>jd 1 [3]<|gq CV<|zD 3<|ja ((j:Int)+1) (by omega)<|zD 2<|LU Y6 (⟨j+1,(.slice TU ((qs++[((.slice FQ (UU).length FN):Value)])).length TN),L58,(qs++[((.slice FQ (UU).length FN):Value)]),L55++Z1⟩) ⟨⟨by dsimp only;omega,by simp only[zM];omega⟩,Hu,fun aG hk=>pU (hG.2.2 aG hk.right) ah5 (y8.kg hk.left)⟩ (by omega) [[3],[0],[2,4],[5],[6],[7],[8],[9]] (Sub.refl _)
 refine zD 3<|Jc [1,1,1,1,1] [] (fun(zz:(Option Addr)×Nat×(Option Addr)×Nat×(List bw)×Cells×Value×Cells)=>[(1,zP b1),(2,zP b2)]) (fun zz=>[.b b1 (.cells ⟨[v0,v1,(.slice yH (([]:List db)).length yF),(.slice zz.1 K.cs.length zz.2.1),(.slice zz.2.2.1 zz.2.2.2.2.1.length zz.2.2.2.1),zz.2.2.2.2.2.2.1,.slice lh K.before.length kY,.slice kS K.after.length kA,zI K.gone,zI K.new,zI K.af,.slice jA K.facts.length gY]⟩ 40 (0,0)),.l zz.2.2.2.2.2.2.2,.l zz.2.2.2.2.2.1,.b b3 (.cells ⟨[v0,v1,(.slice yH (([]:List db)).length yF)]⟩ 31 (0,0)),.l L1,.l Z1,.l L0,.l Z,.l L10,.b b2 (.cells ⟨zO⟩ 40 (0,0))]) (fun zz=>de dr zz.2.2.2.2.1 K.hd∧(∀aG,Sub ro aG→Knows aG zz.2.2.2.2.2.1→jh aG (.slice zz.1 K.cs.length zz.2.1) (.slice zz.2.2.1 zz.2.2.2.2.1.length zz.2.2.2.1) K.cs zz.2.2.2.2.1 K.hd)∧ax zz.2.2.2.2.2.2.1 2 45 iF K.rules zz.2.2.2.2.2.2.2) ?_ (fun K13 N7=>?_)
 ·
  rintro⟨ta,tc,ua,uc,hw,ZT,vR,LR⟩ hJ rest
  dsimp only at hJ
  refine zD 1<|Jc [1,1,1,1,1,1] [] (fun(zz:Value×Cells×Value×Cells×Value×Cells)=>[(1,zP b1),(2,zP b2)]) (fun zz=>[.b b1 (.cells ⟨[v0,v1,(.slice yH (([]:List db)).length yF),(.slice ta K.cs.length tc),(.slice ua hw.length uc),vR,zz.1,zz.2.2.1,zI K.gone,zI K.new,zI K.af,zz.2.2.2.2.1]⟩ 40 (0,0)),.l zz.2.1,.l zz.2.2.2.1,.l zz.2.2.2.2.2,.l LR,.l ZT,.b b3 (.cells ⟨[v0,v1,(.slice yH (([]:List db)).length yF)]⟩ 31 (0,0)),.l L1,.l Z1,.l L0,.l Z,.l L10,.b b2 (.cells ⟨zO⟩ 40 (0,0))]) (fun zz=>ax zz.1 5 55 eF K.before zz.2.1∧ax zz.2.2.1 5 55 eF K.after zz.2.2.2.1∧ax zz.2.2.2.2.1 3 58 mX K.facts zz.2.2.2.2.2) ?_ (fun K14 J7=>?_)
  ·
   rintro⟨vB,LB,vA,LA,vF,LF⟩ hM rest
   dsimp only at hM
   refine jd 3 [0] ?_
   obtain⟨atj,as7,axD⟩:=hI.2.1.form
   subst axD
   obtain⟨FT,Eh,u7⟩:=hG.2.1.form
   subst u7
   obtain⟨ati,as6,N3⟩:=hJ.2.2.form
   subst N3
   obtain⟨ath,as5,aiu⟩:=hM.1.form
   subst aiu
   obtain⟨xT,xS,J3⟩:=hM.2.1.form
   subst J3
   obtain⟨adI,aaa,N2⟩:=hM.2.2.form
   subst N2
   refine jd 3 [12]<|zR (.agg ⟨[(.slice atj (ps).length as7),(.slice FT (qs).length Eh),(.slice yH (([]:List db)).length yF),(.slice ta K.cs.length tc),(.slice ua hw.length uc),(.slice ati (K.rules).length as6),(.slice ath (K.before).length as5),(.slice xT (K.after).length xS),zI K.gone,zI K.new,zI K.af,(.slice adI (K.facts).length aaa)]⟩) [12] [3,1,2,4,5,7,8,9,10,11] (LF++(LB++(LA++(LR++(ZT++(L1++(Z1++(L0++(Z++L10))))))))) ⟨_,_,_,_,_,_,_,_,_,_,_,_,rfl,AB (eT hI.2.1) (eT hG.2.1) rfl rfl (eT hJ.2.2) (eT hM.1) (eT hM.2.1) (eT hM.2.2),hM.2.2,fun aG mw hk vf fs g hvf=>⟨_,_,_,_,_,_,_,_,_,_,hw,rfl,⟨_,hI.2.1.kg hk.right.right.right.right.right.right.left,by have:=hI.2.2 aG hk.right.right.right.right.right.right.right.left;rwa[List.take_of_length_le (by omega)] at this⟩,⟨_,hG.2.1.kg hk.right.right.right.right.left,by have:=hG.2.2 aG hk.right.right.right.right.right.left;rwa[List.take_of_length_le (by omega)] at this⟩,hJ.2.1 aG mw hk.right.right.right.left,hJ.1,hJ.2.2.kg hk.right.right.left,hM.1.kg hk.left,hM.2.1.kg hk.right.left,hvf⟩,rfl⟩
  refine jd 7 [0,0,0]<|Jb [2,6] ⟨fun z15 t16 HW=>?_,fun z18 t19 VV=>?_,trivial⟩
  ·
   refine jc (vs:=[.slice lh K.before.length kY]) [] (gT (show bD _ _ _ _ _ from ⟨lh,O6,O4,kY,rfl,O5,Nk,Nj⟩) (by omega)) ?_
   rintro v73 L73 ⟨_,zb,rfl⟩
   refine eH HW (zN 1 10)<|zD 1<|Jb [5,6] ⟨fun z21 t22 VU=>?_,fun z24 t25 EN=>?_,trivial⟩
   ·
    refine jc (vs:=[.slice kS K.after.length kA]) [] (gT (show bD _ _ _ _ _ from ⟨kS,KU,KS,kA,rfl,KT,JF,JE⟩) (by omega)) ?_
    rintro v76 L76 ⟨_,wA,rfl⟩
    refine eH VU (zN 1 11)<|aV 6 fun Ps PS HV=>jn fun b77=>eH HV (zN 1 12)<|aV 9 fun Pr PQ HU=>iC (sz:=3) (ps:=[]) (qs:=K.facts) (enc:=mX) (w:= .slice jA K.facts.length gY) [0] [] [] (bA (b:=b77) (T:=58)) (fun s he _=>⟨jA,BJ,BI,gY,rfl,uM,fun i p hp=>(uL i p hp).ext he⟩) (fun p _=>aj rfl) (by simp<;>omega) (fun v80 L80 fY=>?_)
    rw[List.nil_append] at fY
    obtain⟨FP,FM,HJ⟩:=fY.form
    subst HJ
    refine gM HU []<|aV 11 (fun Pq PO HT=>?_)
    obtain⟨adG,adA,VA⟩:=zb.form
    subst VA
    refine jd 1 [3]<|gq HT<|zD 1<|aV 13 (fun ac9 adV VS=>?_)
    obtain⟨ate,as2,axz⟩:=wA.form
    subst axz
    refine jd 1 [3]<|gq VS<|zD 1<|aV 15 fun ac8 adU J5=>jd 1 [3]<|gq J5<|zD 1<|bI J7 ⟨(.slice adG (K.before).length adA),L73,(.slice ate (K.after).length as2),L76,(.slice FP (K.facts).length FM),L80⟩ ⟨zb,wA,fY⟩ Nat.zero_lt_one [3,2,1,0,4,5,6,7,8,9,10,11,12] (Sub.refl _)
   refine jn fun b77=>eH EN (zN 1 11)<|aV 5 fun aqd aqx VQ=>jc (vs:=[.slice kS K.after.length kA]) [] (gT (show bD _ _ _ _ _ from ⟨kS,KU,KS,kA,rfl,KT,JF,JE⟩) (by omega)) ?_
   rintro v76 L76 ⟨_,wA,rfl⟩
   refine eH VQ (zN 1 12)<|aV 9 fun aAS aBN ayb=>iC (sz:=3) (ps:=[]) (qs:=K.facts) (enc:=mX) (w:= .slice jA K.facts.length gY) [1] [] [] (bA (b:=b77) (T:=58)) (fun s he _=>⟨jA,BJ,BI,gY,rfl,uM,fun i p hp=>(uL i p hp).ext he⟩) (fun p _=>aj rfl) (by simp<;>omega) (fun v80 L80 fY=>?_)
   rw[List.nil_append] at fY
   obtain⟨FP,FM,HJ⟩:=fY.form
   subst HJ
   refine gM ayb []<|aV 11 (fun aAR aBM aiY=>?_)
   obtain⟨yG,yE,Vz⟩:=zb.form
   subst Vz
   refine jd 1 [3]<|gq aiY<|zD 1<|aV 13 (fun aAQ aBL aiX=>?_)
   obtain⟨TV,TO,Vy⟩:=wA.form
   subst Vy
   refine jd 1 [3]<|gq aiX<|zD 1<|aV 15 fun ac7 adT N6=>jd 1 [3]<|gq N6<|zD 1<|bI J7 ⟨(.slice yG (K.before).length yE),L73,(.slice TV (K.after).length TO),L76,(.slice FP (K.facts).length FM),L80⟩ ⟨zb,wA,fY⟩ Nat.zero_lt_one [3,2,1,0,4,5,6,7,8,9,10,11,12] (Sub.refl _)
  refine jn fun b77=>eH VV (zN 1 10)<|aV 2 fun ac6 adS VP=>jc (vs:=[.slice lh K.before.length kY]) [] (gT (show bD _ _ _ _ _ from ⟨lh,O6,O4,kY,rfl,O5,Nk,Nj⟩) (by omega)) ?_
  rintro v73 L73 ⟨_,zb,rfl⟩
  refine eH VP (zN 1 11)<|zD 1<|aV 5 fun aqc aqw aiW=>jc (vs:=[.slice kS K.after.length kA]) [] (gT (show bD _ _ _ _ _ from ⟨kS,KU,KS,kA,rfl,KT,JF,JE⟩) (by omega)) ?_
  rintro v76 L76 ⟨_,wA,rfl⟩
  refine eH aiW (zN 1 12)<|aV 9 fun aqb aqv aiU=>iC (sz:=3) (ps:=[]) (qs:=K.facts) (enc:=mX) (w:= .slice jA K.facts.length gY) [2] [] [] (bA (b:=b77) (T:=58)) (fun s he _=>⟨jA,BJ,BI,gY,rfl,uM,fun i p hp=>(uL i p hp).ext he⟩) (fun p _=>aj rfl) (by simp<;>omega) (fun v80 L80 fY=>?_)
  rw[List.nil_append] at fY
  obtain⟨FP,FM,HJ⟩:=fY.form
  subst HJ
  refine gM aiU []<|aV 11 (fun aAP aBK aya=>?_)
  obtain⟨FR,FO,HL⟩:=zb.form
  subst HL
  refine jd 1 [3]<|gq aya<|zD 1<|aV 13 (fun aAO aBJ aiT=>?_)
  obtain⟨atb,asZ,axw⟩:=wA.form
  subst axw
  refine jd 1 [3]<|gq aiT<|zD 1<|aV 15 fun aAN aBI ax9=>jd 1 [3]<|gq ax9<|zD 1<|bI J7 ⟨(.slice FR (K.before).length FO),L73,(.slice atb (K.after).length asZ),L76,(.slice FP (K.facts).length FM),L80⟩ ⟨zb,wA,fY⟩ Nat.zero_lt_one [3,2,1,0,4,5,6,7,8,9,10,11,12] (Sub.refl _)
 refine jd 7 [0,7,7]<|Jb [3,4] ⟨fun z43 t44 ao3=>?_,fun z46 t47 ax8=>?_,trivial⟩
 ·
  refine jc [] (uf hO.da pR nj) ?_
  rintro _ WT ⟨Ve,ay5,ax0,ay2,axQ,_,rfl,Hp,Ho,rfl⟩
  refine eH ao3 (zN 1 8)<|aV 4 fun aAM aBH ax7=>jn fun b64=>eH ax7 (zN 1 9)<|aV 7 fun aAL aBG aiS=>iC (sz:=2) (ps:=[]) (qs:=K.rules) (enc:=iF) (w:= .slice kR K.rules.length kQ) [0] [] [] (bA (b:=b64) (T:=45)) (fun s he _=>⟨kR,I8,I7,kQ,rfl,Gw,fun i p hp=>(Gv i p hp).ext he⟩) (fun p _=>aj rfl) (by simp<;>omega) (fun v67 L67 lN=>?_)
  rw[List.nil_append] at lN
  obtain⟨TS,TK,Vw⟩:=lN.form
  subst Vw
  refine gM aiS [[2]]<|aV 9 (fun aqa aqu aiR=>?_)
  obtain⟨adE,ady,Vx⟩:=hI.2.1.form
  subst Vx
  obtain⟨aMw,aMd,axu⟩:=hG.2.1.form
  subst axu
  refine jd 1 [9]<|gq aiR<|zD 1<|aV 11 fun ap9 aqt aiQ=>jd 1 [9]<|gq aiQ<|zD 1<|aV 13 fun ap8 aqs aiP=>jd 1 [9]<|gq aiP<|zD 1<|bI N7 ⟨_,_,_,_,Ve,WT,(.slice TS (K.rules).length TK),L67⟩ ⟨Hp,Ho,lN⟩ Nat.zero_lt_one [9,0,1,2,3,4,5,6,7,8] (Sub.refl _)
 refine jn fun b64=>eH ax8 (zN 1 8)<|aV 3 fun ap7 aqr aiO=>jc [] (uf hO.da pR nj) ?_
 rintro _ WT ⟨Ve,ay5,ax0,ay2,axQ,_,rfl,Hp,Ho,rfl⟩
 refine eH aiO (zN 1 9)<|aV 7 fun ap6 aqq aiN=>iC (sz:=2) (ps:=[]) (qs:=K.rules) (enc:=iF) (w:= .slice kR K.rules.length kQ) [1] [] [] (bA (b:=b64) (T:=45)) (fun s he _=>⟨kR,I8,I7,kQ,rfl,Gw,fun i p hp=>(Gv i p hp).ext he⟩) (fun p _=>aj rfl) (by simp<;>omega) (fun v67 L67 lN=>?_)
 rw[List.nil_append] at lN
 obtain⟨TS,TK,Vw⟩:=lN.form
 subst Vw
 refine gM aiN [[2]]<|aV 9 (fun ap5 aqp aiM=>?_)
 obtain⟨amu,ams,aip⟩:=hI.2.1.form
 subst aip
 obtain⟨TU,TN,HK⟩:=hG.2.1.form
 subst HK
 refine jd 1 [9]<|gq aiM<|zD 1<|aV 11 fun ap4 aqo aiL=>jd 1 [9]<|gq aiL<|zD 1<|aV 13 fun aAK aBF ax6=>jd 1 [9]<|gq ax6<|zD 1<|bI N7 ⟨_,_,_,_,Ve,WT,(.slice TS (K.rules).length TK),L67⟩ ⟨Hp,Ho,lN⟩ Nat.zero_lt_one [9,0,1,2,3,4,5,6,7,8] (Sub.refl _)
end Go.L
