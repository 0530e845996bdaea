/- Part 11 of the proof. -/
import Derived.Test.YtknkndglfcfhkaaGreatDoorQ10
set_option maxRecDepth 100000
set_option linter.all false
namespace Go.L
open Go Go.Conc Go.Proofs
variable {ro:Nat→Option Obj} {K:aB} {l z z1:List Value} {i ck q f k bD sz r dep by1 fc:Nat} {n x y j:Int} {T R:Nat→Nat→Int} {s ys xs zs:List Int} {κ α β:Type} {fs:List bM} {seen:List Nat} {b ag:Bool} {v0 v1 v3 v5 v6 v7 vb:Value}
def akR[DecidableEq κ](r:Nat)(kv:κ→Value)(k:κ)(F:List (κ×Value))(b:Nat)(L:Cells):Prop:=
 ∃es ck i u,L=[(r,.map es ck)]∧tA kv F es ck∧su k F 0=some (i,u)∧(es.toList.map (·.born))[i]?=some b
theorem akR.own[DecidableEq κ]{kv:κ→Value}{k:κ}{F:List (κ×Value)}{b:Nat}{L:Cells}(h:akR r kv k F b L):jP r kv F L:=by
 obtain⟨es,ck,_,_,h1,h2,_⟩:=h
 exact⟨es,ck,h1,h2⟩
def meV(P:Program)(n:Nat)(p:Oper)(e:Env):Option (TypeId×TypeId×Value×Value):=match p.op with
 | .mapEntry T x y=>match aZ P T with
  |some ⟨.map K E,_,_,_⟩=>match bp n e x with
   |some m=>match bp n e y with
    |some k=>some (K,E,m,k)
    |none=>none
   |none=>none
  |_=>none
 |_=>none
def esV(n:Nat)(p:Oper)(e:Env):Option (Value×Value×Value):=match p.op with
 | .entryStore _ x y z=>match bp n e x with
  |some m=>match bp n e y with
   |some b=>match bp n e z with
    |some v=>some (m,b,v)
    |none=>none
   |none=>none
  |none=>none
 |_=>none
theorem Bg[DecidableEq κ]{k:κ}{v:Value}:∀ {F:List (κ×Value)} {i:Nat},su k F i=none→su k (F++[(k,v)]) i=some (i+F.length,v)
 | [],i,_=>by simp[su]
 |x::l,i,h=>by
  simp only[su] at h
  split at h
  ·cases h
  rename_i hk
  rw[List.cons_append,su,if_neg hk,Bg h,List.length_cons,show i+1+l.length=i+(l.length+1) by omega]
theorem Yh{kv:κ→Value}{k:κ}{v:Value}:∀(es:List MapEntry) (F:List (κ×Value)) (i:Nat) {u:Value},F[i]?=some (k,u)→es.map (fun e=>(e.key,e.val))=F.map (fun x=>(kv x.1,x.2))→(es.modify i fun e=>{e with val:=v}).map (fun e=>(e.key,e.val))=(tK k v F i).map (fun x=>(kv x.1,x.2))
 | [],[],_,_,h,_=>by simp at h
 | [],_::_,_,_,_,h=>by simp at h
 |_::_,[],_,_,_,h=>by simp at h
 |e::es,x::F,0,_,h1,h=>by
  simp only[List.map_cons,List.cons.injEq,Prod.mk.injEq] at h
  simp at h1;subst h1
  simp[tK,h.2,h.1.1]
 |e::es,x::F,i+1,_,h1,h=>by
  simp only[List.map_cons,List.cons.injEq] at h
  simp at h1
  simp[tK,h.1,Yh es F i h1 h.2]
theorem Is{v:Value}:∀(es:List MapEntry) (i:Nat),(es.modify i fun e=>{e with val:=v}).map (·.born)=es.map (·.born)
 | [],i=>by simp
 |e::es,0=>by simp
 |e::es,i+1=>by simp[Is es i]
theorem Bz{kx:Value}:∀(es:List MapEntry) (i:Nat),(es.modify i fun e=>{e with key:=kx}).map (·.born)=es.map (·.born)
 | [],i=>by simp
 |e::es,0=>by simp
 |e::es,i+1=>by simp[Bz es i]
theorem Yi{kv:κ→Value}{k:κ}:∀(es:List MapEntry) (F:List (κ×Value)) (i:Nat) {u:Value},F[i]?=some (k,u)→es.map (fun e=>(e.key,e.val))=F.map (fun x=>(kv x.1,x.2))→(es.modify i fun e=>{e with key:=kv k}).map (fun e=>(e.key,e.val))=F.map (fun x=>(kv x.1,x.2))
 | [],[],_,_,h,_=>by simp at h
 | [],_::_,_,_,_,h=>by simp at h
 |_::_,[],_,_,_,h=>by simp at h
 |e::es,x::F,0,_,h1,h=>by
  simp only[List.map_cons,List.cons.injEq,Prod.mk.injEq] at h
  simp at h1;subst h1
  simp[h.2,h.1.2]
 |e::es,x::F,i+1,_,h1,h=>by
  simp only[List.map_cons,List.cons.injEq] at h
  simp at h1
  simp[h.1,Yi es F i h1 h.2]
theorem ZL{es dX:Array MapEntry}(h:∀e∈es.toList,e.born <ck)(hb:dX.toList.map (·.born)=es.toList.map (·.born)):∀e∈dX.toList,e.born <ck:=fun e he=>by
 have:e.born∈dX.toList.map (·.born):=List.mem_map_of_mem he
 rw[hb] at this
 obtain⟨e2,h3,h4⟩:=List.mem_map.1 this
 rw[←h4];exact h e2 h3
section
variable {X:Cx} {o:Option JS}
theorem jSk{f:Oper→Env→Option β}{r:β}{Φ:Cells→Prop}(ps:List Nat)(B:Cells)(hv:eR X.n f o=some r)(hB:dM ps o=some B)
 (hy:∀p e,f p e=some r→(∀c,p.op≠ .defer c)∧∀(R:Cells) (Q:Next→St→Prop) (E:Halt→St→Prop),(∀L',Φ L'→Q .skip ⟨X.ro,L'++R⟩)→bP X.P (execOp (ev X.n e) p) ⟨X.ro,B++R⟩ Q E)
 (hj:∀L',Φ L'→J X (m9 ps undef L' o)):J X o:=by
 obtain⟨ops,i,todo,k,e,w,kn,p,rfl,ho,hw,hc⟩:=dz hv
 intro bY
 have hp:=bJ hB
 obtain⟨hd,ht⟩:=hy p e hc
 have:ab X.C X.fn X.az ops (i::todo) (KQ X k) (A X.n e X.D) ⟨X.ro,B++den (dC ps 0 w)⟩:=by
  refine bV X.hC ho hw hd<|ht _ _ _ fun L' pz=>?_
  have:=hj L' pz
  rw[oe ho] at this
  have:=this bY
  simp only[JP,gp] at this
  show ab _ _ _ _ _ _ _ _
  rw[←aY] at this
  exact this
 have hle:(⟨X.ro,B++den (dC ps 0 w)⟩:St).le ⟨X.ro,den w⟩:=⟨[],by rw[List.append_nil];exact hp,fun b o hb=> .inl hb⟩
 exact this.more X.hC hle
theorem jme[DecidableEq κ]{kv:κ→Value}{F:List (κ×Value)}{K E:TypeId}{L:Cells}{d:TypeDesc}(i:Nat)(k:κ)(hk:Tj X.P K kv)(te:TF X.P E d sz bD z ag)(hm:jP r kv F L)
 (hj:∀F1 b c L',(((∃u,su k F 0=some u)∧F1=F)∨(su k F 0=none∧F1=F++[(k,Pf z ag)]))→akR r kv k F1 b L'→J X (m9 [i] (.tuple ⟨[c,zI (b:Int)]⟩) L' o))
 (hv:eR X.n (meV X.P X.n) o=some (K,E,.map (some r),kv k):=by kernel_rfl)(hB:dM [i] o=some L:=by kernel_rfl):J X o:=by
 refine jS (Φ:=fun v L'=>∃F1 b c,(((∃u,su k F 0=some u)∧F1=F)∨(su k F 0=none∧F1=F++[(k,Pf z ag)]))∧akR r kv k F1 b L'∧v= .tuple ⟨[c,zI (b:Int)]⟩) [i] _ hv hB (fun p e hf=>?_) (fun v L' pz=>?_)
 ·unfold meV at hf
  split at hf<;>try (cases hf;done)
  rename_i T x y ay
  split at hf<;>try (cases hf;done)
  rename_i K' E' _ _ _ dL
  split at hf<;>try (cases hf;done)
  rename_i m hx
  split at hf<;>try (cases hf;done)
  rename_i k' hy
  simp only[Option.some.injEq,Prod.mk.injEq] at hf
  obtain⟨rfl,rfl,rfl,rfl⟩:=hf
  obtain⟨beg,tf⟩:=av dL
  refine⟨by rw[ay];simp,fun R Q E hQ=>?_⟩
  obtain⟨es,ck,rfl,CU⟩:=hm
  simp only[execOp,ay,Instr.mapEntry,aa,a8 tf,aH hx,aH hy]
  refine cG (.inr (List.mem_append_left _ List.mem_cons_self)) rfl rfl ?_
  simp only[aa]
  refine hk.chk _ _ ?_
  simp only[aa]
  refine hk.find k _ F CU.1 ?_
  cases x6:su k F 0 with
  |some u=>
   obtain⟨j,u⟩:=u
   have TD:=qv x6
   simp only[Nat.sub_zero] at TD
   have h1:(es.toList.map (fun e=>(e.key,e.val)))[j]?=some (kv k,u):=by rw[CU.1];simp[TD.2]
   simp only[List.getElem?_map,Array.getElem?_toList] at h1
   cases he:es[j]? with
   |none=>rw[he] at h1;cases h1
   |some e1=>
    rw[he] at h1
    simp only[Option.map_some,Option.some.injEq,Prod.mk.injEq] at h1
    simp only[aa,Instr.keyThatStays,he,Option.map_some,Option.getD_some,h1.1,hk.stay,if_true,ae]
    refine ee (L:=[]) rfl rfl rfl ?_
    simp only[ae]
    refine hQ _ [(r,_)] ⟨F,e1.born,u,.inl ⟨⟨_,x6⟩,rfl⟩,⟨_,_,j,u,rfl,⟨?_,?_,?_⟩,x6,?_⟩,rfl⟩
    ·rw[Array.toList_modify];exact Yi _ _ _ TD.2 CU.1
    ·rw[Array.toList_modify,Bz];exact CU.2.1
    ·exact ZL CU.2.2 (by rw[Array.toList_modify,Bz])
    rw[Array.toList_modify,Bz,List.getElem?_map,Array.getElem?_toList,he];rfl
  |none=>
   simp only[aa,jT te]
   refine ee (L:=[]) rfl rfl rfl ?_
   simp only[ae]
   have hlen:es.toList.length=F.length:=by have:=congrArg List.length CU.1;simpa using this
   refine hQ _ [(r,_)] ⟨_,ck,_,.inr ⟨x6,rfl⟩,⟨_,_,F.length,_,rfl,⟨?_,?_,?_⟩,by have:=Bg (v:=Pf z ag) x6;rwa[Nat.zero_add] at this,?_⟩,rfl⟩
   ·simp only[Array.toList_push,List.map_append,CU.1];rfl
   ·simp only[Array.toList_push,List.map_append,List.map_cons,List.map_nil]
    refine List.nodup_append.2 ⟨CU.2.1,by simp,?_⟩
    intro a ha b hb
    obtain⟨e2,h3,rfl⟩:=List.mem_map.1 ha
    have:=CU.2.2 e2 h3
    simp only[List.mem_singleton] at hb
    omega
   ·intro e1 h1
    simp only[Array.toList_push,List.mem_append,List.mem_singleton] at h1
    rcases h1 with h1|rfl
    ·have:=CU.2.2 e1 h1;omega
    exact Nat.lt_succ_self _
   simp only[Array.toList_push,List.map_append,List.map_cons,List.map_nil]
   rw[List.getElem?_append_right (by simp[hlen])]
   simp[hlen]
 obtain⟨F1,b,c,h1,h2,rfl⟩:=pz
 exact hj F1 b c L' h1 h2
theorem jes[DecidableEq κ]{kv:κ→Value}{F:List (κ×Value)}{b:Nat}{L:Cells}{k:κ}(i:Nat)(v:Value)(hm:akR r kv k F b L)(hj:∀L',jP r kv (mi k v F) L'→J X (m9 [i] undef L' o))
 (hv:eR X.n (esV X.n) o=some (.map (some r),zI (b:Int),v):=by kernel_rfl)(hB:dM [i] o=some L:=by kernel_rfl):J X o:=by
 refine jSk (Φ:=jP r kv (mi k v F)) [i] _ hv hB (fun p e hf=>?_) hj
 unfold esV at hf
 split at hf<;>try (cases hf;done)
 rename_i T x y zz ay
 split at hf<;>try (cases hf;done)
 rename_i m hx
 split at hf<;>try (cases hf;done)
 rename_i b' hy
 split at hf<;>try (cases hf;done)
 rename_i v' hz
 simp only[Option.some.injEq,Prod.mk.injEq] at hf
 obtain⟨rfl,rfl,rfl⟩:=hf
 refine⟨by rw[ay];simp,fun R Q E hQ=>?_⟩
 obtain⟨es,ck,j,u,rfl,CU,x6,hb⟩:=hm
 have TD:=qv x6
 simp only[Nat.sub_zero] at TD
 simp only[execOp,ay,Instr.entryStore,aa,aH hx,aH hy,aH hz]
 refine cG (.inr (List.mem_append_left _ List.mem_cons_self)) rfl rfl ?_
 have aQJ:es.findIdx? (fun e=>(e.born:Int)==(b:Int))=some j:=by
  rw[List.getElem?_map,Array.getElem?_toList] at hb
  obtain⟨e1,he,rfl⟩:=Option.map_eq_some_iff.1 hb
  obtain⟨h1,h2⟩:=Array.getElem?_eq_some_iff.1 he
  refine Array.findIdx?_eq_some_iff_getElem.2 ⟨h1,by simp[h2],fun q hq=>?_⟩
  have mb:=CU.2.1
  have:=List.pairwise_iff_getElem.1 mb q j (by simp;omega) (by simp;omega) hq
  simp only[List.getElem_map,Array.getElem_toList,h2] at this
  simp only[beq_iff_eq]
  omega
 simp only[aa,asInt,asIntOf,ae,aQJ]
 refine ee (L:=[]) rfl rfl rfl ?_
 show Q .skip _
 refine hQ [(r,_)] ⟨_,_,rfl,?_,?_,?_⟩
 ·rw[Array.toList_modify,mi,x6];exact Yh _ _ _ TD.2 CU.1
 ·rw[Array.toList_modify,Is];exact CU.2.1
 exact ZL CU.2.2 (by rw[Array.toList_modify,Is])
end
abbrev v4(a b c d:Int):Value:= .agg ⟨[zI a,zI b,zI c,zI d]⟩
theorem aHK{P:Program}{T:TypeId}(tf:TF P T (.array 4 3) sz bD z ag)(t3:TF P 3 (.int .i64) 1 by1 z1 false)(a b c d a' b' c' d':Int):
 EqD P (dep+2) T (v4 a b c d) (v4 a' b' c' d') (a==a'&&(b==b'&&(c==c'&&(d==d'&&true)))):=by
 intro α s k Q E
 rw[Op.equalIn]
 simp only[aa,a8 tf,cv t3]
 simp only[Std.Legacy.Range.forIn_eq_forIn_range',Std.Legacy.Range.size,Nat.sub_zero,Nat.add_sub_cancel,Nat.div_one,List.range'_succ,List.range'_zero,List.forIn_cons,List.forIn_nil,aa,Nat.zero_add,Nat.mul_one]
 have p (l:List Value) (o:Nat) (v:Value) (h:nth l o=some v):II P 3 l o v:=j5 t3 h
 rw[p _ 0 (zI a) rfl];simp only[aa]
 rw[p _ 0 (zI a') rfl];simp only[aa]
 rw[od t3 a a']
 cases ha:a==a' with
 |false=>simp only[Bool.not_false,if_true,ae,aa,Bool.false_and]
 |true=>
 simp only[Bool.not_true,Bool.false_eq_true,if_false,ae,Bool.true_and,aa]
 rw[p _ 1 (zI b) rfl];simp only[aa]
 rw[p _ 1 (zI b') rfl];simp only[aa]
 rw[od t3 b b']
 cases hb:b==b' with
 |false=>simp only[Bool.not_false,if_true,ae,aa,Bool.false_and]
 |true=>
 simp only[Bool.not_true,Bool.false_eq_true,if_false,ae,Bool.true_and,aa]
 rw[p _ 2 (zI c) rfl];simp only[aa]
 rw[p _ 2 (zI c') rfl];simp only[aa]
 rw[od t3 c c']
 cases hc:c==c' with
 |false=>simp only[Bool.not_false,if_true,ae,aa,Bool.false_and]
 |true=>
 simp only[Bool.not_true,Bool.false_eq_true,if_false,ae,Bool.true_and,aa]
 rw[p _ 3 (zI d) rfl];simp only[aa]
 rw[p _ 3 (zI d') rfl];simp only[aa]
 rw[od t3 d d']
 cases hd:d==d' with
 |false=>simp only[Bool.not_false,if_true,ae,aa,Bool.false_and]
 |true=>simp only[Bool.not_true,Bool.false_eq_true,if_false,ae,Bool.true_and,aa]
theorem ck4{P:Program}{T:TypeId}(tf:TF P T (.array 4 3) sz bD z ag)(t3:TF P 3 (.int .i64) 1 by1 z1 false)(a b c d:Int):CkD P (dep+2) T (v4 a b c d):=by
 intro bb α K s Q E
 rw[Instr.checkKey]
 simp only[aa,a8 tf]
 simp only[Std.Legacy.Range.forIn_eq_forIn_range',Std.Legacy.Range.size,Nat.sub_zero,Nat.add_sub_cancel,Nat.div_one,List.range'_succ,List.range'_zero,List.forIn_cons,List.forIn_nil,aa,Nat.zero_add,cv t3,Nat.zero_mul,Nat.mul_one]
 have p (l:List Value) (o:Nat) (v:Value) (h:nth l o=some v):II P 3 l o v:=j5 t3 h
 rw[p _ 0 (zI a) rfl];simp only[aa];rw[Ie t3 a bb];simp only[ae,aa,cv t3,Nat.mul_one]
 rw[p _ 1 (zI b) rfl];simp only[aa];rw[Ie t3 b bb];simp only[ae,aa,cv t3,Nat.mul_one]
 rw[p _ 2 (zI c) rfl];simp only[aa];rw[Ie t3 c bb];simp only[ae,aa,cv t3,Nat.mul_one]
 rw[p _ 3 (zI d) rfl];simp only[aa];rw[Ie t3 d bb];simp only[ae,aa]
abbrev P4:=Int×Int×Int×Int
abbrev IT(x:P4):Value:=v4 x.1 x.2.1 x.2.2.1 x.2.2.2
theorem agw:Tj zT 126 IT:=agv (ni Tryz.typeInfo126 Tryz.underlying126 rfl rfl rfl rfl rfl rfl) (fun k=>⟨_,rfl⟩)
 (fun k=>ck4 (dep:=9998) (ni Tryz.typeInfo126 Tryz.underlying126 rfl rfl rfl rfl rfl rfl) mz _ _ _ _)
 (fun a b=>by
  have h:=aHK (dep:=9998) (ni Tryz.typeInfo126 Tryz.underlying126 rfl rfl rfl rfl rfl rfl) mz a.1 a.2.1 a.2.2.1 a.2.2.2 b.1 b.2.1 b.2.2.1 b.2.2.2
  have e:(a.1==b.1&&(a.2.1==b.2.1&&(a.2.2.1==b.2.2.1&&(a.2.2.2==b.2.2.2&&true))))=decide (a=b):=by
   rcases a with ⟨x,y,z,t⟩;rcases b with ⟨u,v,w,r⟩
   rw[Bool.eq_iff_iff];simp
  rwa[e] at h)
 (fun k=>by simp[Instr.sameBits])
structure eX where
 c:Nat→Nat→Int
abbrev zv(m:eX):List Value:=[zI (m.c 0 0),zI (m.c 0 1),zI (m.c 0 2),zI (m.c 0 3),zI (m.c 1 0),zI (m.c 1 1),zI (m.c 1 2),zI (m.c 1 3),zI (m.c 2 0),zI (m.c 2 1),zI (m.c 2 2),zI (m.c 2 3),zI (m.c 3 0),zI (m.c 3 1),zI (m.c 3 2),zI (m.c 3 3)]
theorem E7{m:eX}{a b:Nat}(h:a <4)(k:b <4):nth (zv m) (0+(a:Int).toNat*4+(b:Int).toNat*1)=some (zI (m.c a b)):=by
 rcases AV h with rfl|rfl|rfl|rfl<;>rcases AV k with rfl|rfl|rfl|rfl<;>rfl
def rK(m:eX)(a b:Nat)(v:Int):eX:=⟨fun i j=>if i=a∧j=b then v else m.c i j⟩
theorem anh{m:eX}{a b:Nat}{v:Int}(h:a <4)(k:b <4):dA (zv m) (0+(a:Int).toNat*4+(b:Int).toNat*1) [zI v]=zv (rK m a b v):=by
 rcases AV h with rfl|rfl|rfl|rfl<;>rcases AV k with rfl|rfl|rfl|rfl<;>rfl
theorem ani{m:eX}{a b:Nat}{v:Value}(h:a <4)(k:b <4):Nat.ble ((0+(a:Int).toNat*4+(b:Int).toNat*1)+[v].length) (zv m).length=true:=by
 rcases AV h with rfl|rfl|rfl|rfl<;>rcases AV k with rfl|rfl|rfl|rfl<;>rfl
def pI(x:aj):Nat→Int
 |0=>x.w0
 |1=>x.w1
 |2=>x.w2
 |_=>x.w3
def aE(zs:List aj):eX:=⟨fun i j=>((zs.filter fun x=>decide (pI x i=(j:Int)+1)).length:Int)⟩
theorem Ia(zs:List aj)(i j:Nat):0≤(aE zs).c i j∧(aE zs).c i j≤zs.length:=by
 have:=List.length_filter_le (fun x=>decide (pI x i=(j:Int)+1)) zs
 simp only[aE];omega
theorem Bs{zs ys:List aj}(h:zs.Perm ys):aE zs=aE ys:=by
 simp only[aE,(h.filter _).length_eq]
theorem No{r:bG}{p:Nat→Int}(hp:∀i,0≤p i∧p i≤4)(q:Nat):0≤pI (cu K r i p) q∧pI (cu K r i p) q≤4:=match q with
 |0=>hp 0
 |1=>hp 1
 |2=>hp 2
 |_+3=>hp 3
def xg:Prop:=∀ {ro:Nat→Option Obj} {v:Value} {zs:List aj},bC ro v 8 cQ zs→zs.length≤100000→(∀x∈zs,∀q,0≤pI x q∧pI x q≤4)→dE zT 54 [v] ro [] (fun r Y=>r= .agg ⟨zv (aE zs)⟩∧Y=[])
def mE(m:eX)(n:Int)(i:Nat):Nat→List (List Int)
 |0=>[]
 |j+1=>mE m n i j++(bif decide (m.c i j=n) then [[(i:Int),(j:Int)]] else [])
def pn(m:eX)(n:Int)(w:Nat):Nat→List (List Int)
 |0=>[]
 |i+1=>pn m n w i++mE m n i w
theorem Yc{m:eX}{j:Nat}(h:m.c i j=n):mE m n i (j+1)=mE m n i j++[[(i:Int),(j:Int)]]:=by rw[mE,decide_eq_true h];rfl
theorem Yd{m:eX}{j:Nat}(h:¬m.c i j=n):mE m n i (j+1)=mE m n i j:=by rw[mE,decide_eq_false h];exact List.append_nil _
theorem Co(m:eX)(n:Int)(i:Nat):∀j,(mE m n i j).length≤j
 |0=>Nat.le_refl _
 |j+1=>by have:=Co m n i j;rw[mE,List.length_append];cases decide (m.c i j=n)<;>simp<;>omega
theorem KM(m:eX)(n:Int){w:Nat}(hw:w≤4):∀i,(pn m n w i).length≤4*i
 |0=>Nat.le_refl _
 |i+1=>by have:=KM m n hw i;have:=Co m n i w;rw[pn,List.length_append];omega
theorem anH{rows:List bG}(hK:fF ro l K)(hV:eG K)(hR:rows.length≤2)(hB:jk ro l K rows)(hCt:xg):BU zT 82 [.agg ⟨l⟩,.func (.func 83) ⟨[]⟩ ⟨[]⟩] ro [] (fun r Y=>∃zs v e,zs.Perm (cY K (aF K) (cB K.gone K.new K.af) rows)∧r= .tuple ⟨[v,zI e]⟩∧((zs=[]∧v= zS∧e=9∧Y=[])∨(zs≠[]∧e=0∧∀aD,Knows aD Y→LL aD v (pn (aE zs) ((zs.length:Nat):Int) K.after.length K.before.length)))):=by
 obtain⟨v0,v1,v3,v4,v5,v6,v7,vb,fa,fc,hv,rfl,_⟩:=id hK
 refine G3 ar [] [] aW fun fr=>zD 2<|jn fun b2=>jd 6 [0]<|avE (vs:=[.agg ⟨[v0,v1,.slice fa 0 fc,v3,v4,v5,v6,v7,zI K.gone,zI K.new,zI K.af,vb]⟩]) [] (fun _ _ h=>h) (agG hK hV hR hB) ?_
 rintro _ aG Y15 cg ⟨f15,zs,v15,e15,rfl,Ba,hz,awu,he⟩
 have Vr:∀x∈zs,(-4≤x.gone∧x.gone≤4)∧(-4≤x.new∧x.new≤4)∧(0≤x.af∧x.af≤4):=fun x hx=>by obtain⟨i,r,p,_,_,rfl,_⟩:=gL (hz.mem_iff.1 hx);exact pQ hV r i p
 have hzl:zs.length≤1250:=by rw[hz.length_eq];exact qH hV _ _ hR
 have hpr:∀x∈zs,∀q,0≤pI x q∧pI x q≤4:=fun x hx=>by obtain⟨i,r,p,_,hp,rfl,_⟩:=gL (hz.mem_iff.1 hx);exact No ((j6 hV _).2 p hp)
 obtain⟨d0,d1,d2,d3,d4,d5,d6,d7,d8,d9,dh,hf,qo,nJ,hr,ED,JC,Le,bW⟩:=id Ba
 obtain⟨lN,MW,MT,kX,rfl,MU,Gs,Gr⟩:=ED
 obtain⟨lO,MZ,MX,kY,rfl,MY,Gu,Gt⟩:=JC
 have CQ:=hV.before.1
 have Fc:=hV.after.1
 refine zD 7<|jf [0] Y15 (fun ro4 qj hk3=>?_)
 have hZ1:=awu.jW hk3
 obtain⟨xX,UI,UG,u5,rfl,UH,M1,M0⟩:=hZ1
 refine zD 7<|js 20 (!decide (e15=0)) (fun h5=>?_) (fun h5=>?_)
 ·
  replace h5:=of_decide_eq_false (by simpa using h5)
  have uO:zs=[]∧e15=9:=by rcases he with h| ⟨_,h⟩;exact h;omega
  refine zD 8<|Tp qC.a.a (.tuple ⟨[zS,zI e15]⟩) [1] [] (cg.trans qj) ⟨zs,_,_,hz,rfl,.inl ⟨uO.1,rfl,uO.2,rfl⟩⟩
 replace h5:=of_decide_eq_true (by simpa using h5)
 have uO:zs≠[]∧e15=0:=by rcases he with ⟨_,h⟩|h;omega;exact h
 refine zD 9<|jc (vs:=[.slice xX zs.length u5]) [] (hCt (show bC _ _ _ _ _ from ⟨xX,UI,UG,u5,rfl,UH,M1,M0⟩) (by omega) hpr) ?_
 rintro _ _ ⟨rfl,rfl⟩
 refine jg 0 []<|jn fun sw=>jd 9 [0]<|jl (b:=f15) (off:=0) (m:=13) (vs:=[d0,d1,d2,d3,d4,d5,.slice lN K.before.length kX,.slice lO K.after.length kY,zI K.gone,zI K.new,zI K.af,d8,d9]) 6 ⟨_,_,_,.inl (qj _ _ hf),rfl⟩<|zD 4<|n8<|n8<|dB [1,1,1,1,1,0,1,0,0] [] (fun(zz:Nat×Value×Cells×(List Value)×Cells)=>[(1,.func (.func 83) ⟨[]⟩ ⟨[]⟩),(4,zS),(5,zI 0),(6,zP f15),(7,.slice xX zs.length u5),(9,zz.2.1),(10,zP sw),(29,zI (K.before.length:Int)),(30,zI (zz.1:Int))]) (fun zz=>[.l zz.2.2.1,.l zz.2.2.2.2,.b sw (.cells ⟨[zI ((aE zs).c 0 0),zI ((aE zs).c 0 1),zI ((aE zs).c 0 2),zI ((aE zs).c 0 3),zI ((aE zs).c 1 0),zI ((aE zs).c 1 1),zI ((aE zs).c 1 2),zI ((aE zs).c 1 3),zI ((aE zs).c 2 0),zI ((aE zs).c 2 1),zI ((aE zs).c 2 2),zI ((aE zs).c 2 3),zI ((aE zs).c 3 0),zI ((aE zs).c 3 1),zI ((aE zs).c 3 2),zI ((aE zs).c 3 3)]⟩ 122 (0,0)),.b b2 (.cells ⟨[v0,v1,.slice fa 0 fc,v3,v4,v5,v6,v7,zI K.gone,zI K.new,zI K.af,vb]⟩ 40 (0,0)),.l fr]) (fun zz=>(zz.1≤K.before.length∧zz.2.2.2.1.length=(pn (aE zs) ((zs.length:Nat):Int) K.after.length zz.1).length)∧aw zz.2.1 1 22 fK zz.2.2.2.1 zz.2.2.1∧∀aD,Knows aD zz.2.2.2.2→di (fun w l=>bC aD w 1 cm l) zz.2.2.2.1 (pn (aE zs) ((zs.length:Nat):Int) K.after.length zz.1)) (fun zz=>K.before.length-zz.1) (⟨0,zS,[],[],[]⟩) ⟨⟨by dsimp only;omega,rfl⟩,aw.nil _ _ _,fun _ _=> .nil⟩ [1,0,2,3,4] ?_
 rintro⟨i,vO,LO,es,Z⟩ hI K1 bF rest
 dsimp only at hI
 have hil:=KM (aE zs) ((zs.length:Nat):Int) (w:=K.after.length) (by omega) i
 refine zD 5<|zJ 31 ((i:Int) <(K.before.length:Int)) (fun h6=>?_) fun h6=>?_
 ·
  refine zD 15<|jl (b:=f15) (off:=0) (m:=13) (vs:=[d0,d1,d2,d3,d4,d5,.slice lN K.before.length kX,.slice lO K.after.length kY,zI K.gone,zI K.new,zI K.af,d8,d9]) 7 ⟨_,_,_,.inl (qj _ _ hf),rfl⟩<|zD 4<|dB [1,1,1,1,1,0,1,0,0,1,1,0,0,1,1,0,0] [K1] (fun(zz:Nat×Value×Cells×(List Value)×Cells)=>[(1,.func (.func 83) ⟨[]⟩ ⟨[]⟩),(4,zS),(5,zI 0),(6,zP f15),(7,.slice xX zs.length u5),(9,zz.2.1),(10,zP sw),(11,zI (i:Int)),(29,zI (K.before.length:Int)),(30,zI (i:Int)),(38,zI (K.after.length:Int)),(39,zI (zz.1:Int))]) (fun zz=>[.l zz.2.2.1,.l zz.2.2.2.2,.b sw (.cells ⟨[zI ((aE zs).c 0 0),zI ((aE zs).c 0 1),zI ((aE zs).c 0 2),zI ((aE zs).c 0 3),zI ((aE zs).c 1 0),zI ((aE zs).c 1 1),zI ((aE zs).c 1 2),zI ((aE zs).c 1 3),zI ((aE zs).c 2 0),zI ((aE zs).c 2 1),zI ((aE zs).c 2 2),zI ((aE zs).c 2 3),zI ((aE zs).c 3 0),zI ((aE zs).c 3 1),zI ((aE zs).c 3 2),zI ((aE zs).c 3 3)]⟩ 122 (0,0)),.b b2 (.cells ⟨[v0,v1,.slice fa 0 fc,v3,v4,v5,v6,v7,zI K.gone,zI K.new,zI K.af,vb]⟩ 40 (0,0)),.l fr]) (fun zz=>(zz.1≤K.after.length∧zz.2.2.2.1.length=((pn (aE zs) ((zs.length:Nat):Int) K.after.length i)++(mE (aE zs) ((zs.length:Nat):Int) i zz.1)).length)∧aw zz.2.1 1 22 fK zz.2.2.2.1 zz.2.2.1∧∀aD,Knows aD zz.2.2.2.2→di (fun w l=>bC aD w 1 cm l) zz.2.2.2.1 ((pn (aE zs) ((zs.length:Nat):Int) K.after.length i)++(mE (aE zs) ((zs.length:Nat):Int) i zz.1))) (fun zz=>K.after.length-zz.1) (⟨0,vO,LO,es,Z⟩) ⟨⟨by dsimp only;omega,by simpa [mE] using hI.1.2⟩,hI.2.1,by simpa [mE] using hI.2.2⟩ (zN 0 5) ?_
  rintro⟨j,vO,LO,es,Z⟩ hJ K2 kL rest
  dsimp only at hJ
  have hjl:=Co (aE zs) ((zs.length:Nat):Int) i j
  have hel:=hJ.1.2
  rw[List.length_append] at hel
  refine zD 5<|zJ 40 ((j:Int) <(K.after.length:Int)) (fun h7=>?_) fun h7=>?_
  ·
   refine zD 10 ?_
   have iL:=Ia zs i j
   refine zD 4<|KZ (b:=sw) (off:=0) (len:=4) (sz:=4) (i:Int) (by omega)<|KZ (b:=sw) (off:=0+(i:Int).toNat*4) (len:=4) (sz:=1) (j:Int) (by omega)<|kJ (b:=sw) (off:=0+(i:Int).toNat*4+(j:Int).toNat*1) (m:=1) (vs:=[zI ((aE zs).c i j)]) 0 [2] [(sw,.cells ⟨[zI ((aE zs).c 0 0),zI ((aE zs).c 0 1),zI ((aE zs).c 0 2),zI ((aE zs).c 0 3),zI ((aE zs).c 1 0),zI ((aE zs).c 1 1),zI ((aE zs).c 1 2),zI ((aE zs).c 1 3),zI ((aE zs).c 2 0),zI ((aE zs).c 2 1),zI ((aE zs).c 2 2),zI ((aE zs).c 2 3),zI ((aE zs).c 3 0),zI ((aE zs).c 3 1),zI ((aE zs).c 3 2),zI ((aE zs).c 3 3)]⟩ 122 (0,0))] (fun s _ hZ=>sP (hZ _ (.head _)) (E7 (m:=aE zs) (by omega) (by omega)))<|zD 2<|jp (vs:=[zI ((aE zs).c i j),zI (zs.length:Int)]) [] [] (fun aG hs hZ=>avq)<|zD 1<|js 50 (decide (((aE zs).c i j)=(zs.length:Int))) (fun h8=>?_) (fun h8=>?_)
   ·
    refine zD 5<|jn fun b54=>jn fun b55=>iE (sz:=1) (ps:=es) (qs:=[(.slice (some ⟨b54,0,none⟩) 2 2:Value)]) (enc:=fK) (w:= .slice (some ⟨b55,0,none⟩) 1 1) [2] [0] [(b55,.cells ⟨([(.slice (some ⟨b54,0,none⟩) 2 2:Value)].map fK).flatten⟩ 22 (0,0))] (hJ.2.1) (fun s _ hZ=>bN [(.slice (some ⟨b54,0,none⟩) 2 2:Value)] (hZ _ (.head _)) (by intro p hp;rfl)) (by intro p hp;rw[List.mem_singleton] at hp;subst hp;exact ai rfl) (by simp only[List.length_cons,List.length_nil];omega) (fun v56 L56 wE=>?_)
    obtain⟨aan,aal,ah9⟩:=wE.form
    subst ah9
    refine zD 3<|ja ((j:Int)+1) (by omega)<|zD 2<|KY kL (⟨j+1,(.slice aan ((es++[(.slice (some ⟨b54,0,none⟩) 2 2:Value)])).length aal),L56,(es++[(.slice (some ⟨b54,0,none⟩) 2 2:Value)]),Z++[(b54,.cells ⟨[zI (i:Int),zI (j:Int)]⟩ 3 (0,0))]⟩) ⟨⟨by dsimp only;omega,by dsimp only;rw[Yc (of_decide_eq_true (by assumption)),←List.append_assoc];simp only[zM] at*;omega⟩,wE,fun aD hk=>by dsimp only;rw[Yc (of_decide_eq_true (by assumption)),←List.append_assoc];exact(hJ.2.2 aD hk.left).snoc (bU (enc:=cm) (T:=3) [(i:Int),(j:Int)] (hk.right _ (.head _)) (fun _ _=>rfl))⟩ (by dsimp only;omega) [[0],[3,2],[4],[5],[6]] (Sub.refl _)
   refine zD 3<|ja ((j:Int)+1) (by omega)<|zD 2<|bE kL (⟨j+1,vO,LO,es,Z⟩) ⟨⟨by dsimp only;omega,by dsimp only;rw[Yd (of_decide_eq_false (by assumption))];exact hJ.1.2⟩,hJ.2.1,by dsimp only;rw[Yd (of_decide_eq_false (by assumption))];exact hJ.2.2⟩ (by dsimp only;omega) (zN 0 5) (Sub.refl _)
  refine zD 3<|ja ((i:Int)+1) (by omega)<|zD 2<|bE bF (⟨i+1,vO,LO,es,Z⟩) ⟨⟨by dsimp only;omega,by have:=hJ.1.2;rw[show j=K.after.length by omega] at this;exact this⟩,hJ.2.1,by have:=hJ.2.2;rw[show j=K.after.length by omega] at this;exact this⟩ (by dsimp only;omega) (zN 0 5) (Sub.refl _)
 refine zD 9<|aOr qC.a.a (.tuple ⟨[vO,zI 0]⟩) [0,1,4] LO Z (cg.trans qj) ⟨zs,_,_,hz,rfl,.inr ⟨uO.1,rfl,fun aD hk=>⟨es,hI.2.1.jW hk.left,by have:=hI.2.2 aD hk.right;rwa[show i=K.before.length by omega] at this⟩⟩⟩
structure xj where
 f:Bool
 a:Int
 b:Int
 w:Int
def acC(m:eX)(n:Int)(i j:Nat):Int:=max (m.c i j) (n-m.c i j)
def BC(m:eX)(n:Int)(i:Nat)(s:xj):Nat→xj
 |0=>s
 |j+1=>if acC m n i j <(BC m n i s j).w then ⟨true,i,j,acC m n i j⟩ else BC m n i s j
def acD(m:eX)(n:Int)(w:Nat):Nat→xj
 |0=>⟨false,0,0,n⟩
 |i+1=>BC m n i (acD m n w i) w
def WO(s:xj):Int×Int×Int×Int:=bif s.f then (s.a,s.b,s.w,0) else (0,0,0,11)
theorem ay6{m:eX}{j:Nat}{s:xj}{f:Bool}{a b w:Int}(h:(⟨f,a,b,w⟩:xj)=BC m n i s j)(h2:acC m n i j <w):(⟨true,i,j,acC m n i j⟩:xj)=BC m n i s (j+1):=by rw[BC,←h,if_pos h2]
theorem akq{m:eX}{j:Nat}{s:xj}{f:Bool}{a b w:Int}(h:(⟨f,a,b,w⟩:xj)=BC m n i s j)(h2:¬acC m n i j <w):(⟨f,a,b,w⟩:xj)=BC m n i s (j+1):=by rw[BC,←h,if_neg h2]
theorem avp{rows:List bG}(hK:fF ro l K)(hV:eG K)(hR:rows.length≤2)(hB:jk ro l K rows)(hCt:xg):BU zT 46 [.agg ⟨l⟩] ro [] (fun r Y=>∃zs v e,zs.Perm (cY K (aF K) (cB K.gone K.new K.af) rows)∧r= .tuple ⟨[v,zI e]⟩∧((zs=[]∧v= zS∧e=9∧Y=[])∨(zs≠[]∧e=0∧∀aD,Knows aD Y→LL aD v (pn (aE zs) ((zs.length:Nat):Int) K.after.length K.before.length)))):=by
 obtain⟨v0,v1,v3,v4,v5,v6,v7,vb,fa,fc,hv,rfl,_⟩:=id hK
 refine G3 ar [] [] aW fun fr=>zD 2<|jn fun b1=>jd 6 [0]<|Tq (vs:=[.agg ⟨[v0,v1,.slice fa 0 fc,v3,v4,v5,v6,v7,zI K.gone,zI K.new,zI K.af,vb]⟩,.func (.func 83) ⟨[]⟩ ⟨[]⟩]) [] (fun _ _ h=>h) (anH hK hV hR hB hCt) ?_
 rintro _ Y5 ⟨zs,v5,e5,hz,rfl,hcs⟩
 refine zD 6<|Tp qC (.tuple ⟨[v5,zI e5]⟩) [0,2] Y5 (Sub.refl _) ⟨zs,v5,e5,hz,rfl,hcs⟩
theorem aOj{rows:List bG}(hK:fF ro l K)(hV:eG K)(hR:rows.length≤2)(hB:jk ro l K rows)(hCt:xg):BU zT 50 [.agg ⟨l⟩] ro [] (fun r Y=>∃zs a b w e,zs.Perm (cY K (aF K) (cB K.gone K.new K.af) rows)∧Y=[]∧r= .tuple ⟨[zI a,zI b,zI w,zI e]⟩∧((zs=[]∧a=0∧b=0∧w=0∧e=9)∨(zs≠[]∧(a,b,w,e)=WO (acD (aE zs) ((zs.length:Nat):Int) K.after.length K.before.length)))):=by
 obtain⟨v0,v1,v3,v4,v5,v6,v7,vb,fa,fc,hv,rfl,_⟩:=id hK
 refine G3 ar [] [] aW fun fr=>zD 2<|jn fun b1=>jd 8 [0]<|avE (vs:=[.agg ⟨[v0,v1,.slice fa 0 fc,v3,v4,v5,v6,v7,zI K.gone,zI K.new,zI K.af,vb]⟩]) [] (fun _ _ h=>h) (agG hK hV hR hB) ?_
 rintro _ aG Y14 cg ⟨f14,zs,v14,Oe,rfl,Ba,hz,Vw,he⟩
 have Vr:∀x∈zs,(-4≤x.gone∧x.gone≤4)∧(-4≤x.new∧x.new≤4)∧(0≤x.af∧x.af≤4):=fun x hx=>by obtain⟨i,r,p,_,_,rfl,_⟩:=gL (hz.mem_iff.1 hx);exact pQ hV r i p
 have hzl:zs.length≤1250:=by rw[hz.length_eq];exact qH hV _ _ hR
 have hpr:∀x∈zs,∀q,0≤pI x q∧pI x q≤4:=fun x hx=>by obtain⟨i,r,p,_,hp,rfl,_⟩:=gL (hz.mem_iff.1 hx);exact No ((j6 hV _).2 p hp)
 obtain⟨d0,d1,d2,d3,d4,d5,d6,d7,d8,d9,dh,hf,qo,nJ,hr,ED,JC,Le,bW⟩:=id Ba
 obtain⟨lN,MW,MT,kX,rfl,MU,Gs,Gr⟩:=ED
 obtain⟨lO,MZ,MX,kY,rfl,MY,Gu,Gt⟩:=JC
 have CQ:=hV.before.1
 have Fc:=hV.after.1
 refine zD 7<|jf [0] Y14 (fun ro4 qj hk3=>?_)
 have hZ1:=Vw.jW hk3
 obtain⟨xX,UI,UG,u5,rfl,UH,M1,M0⟩:=hZ1
 refine zD 7<|js 20 (!decide (Oe=0)) (fun h5=>?_) (fun h5=>?_)
 ·
  replace h5:=of_decide_eq_false (by simpa using h5)
  have uO:zs=[]∧Oe=9:=by rcases he with h| ⟨_,h⟩;exact h;omega
  refine zD 10<|Tp qC.a.a (.tuple ⟨[zI 0,zI 0,zI 0,zI Oe]⟩) [1] [] (cg.trans qj) ⟨zs,_,_,_,_,hz,rfl,rfl,.inl ⟨uO.1,rfl,rfl,rfl,uO.2⟩⟩
 replace h5:=of_decide_eq_true (by simpa using h5)
 have uO:zs≠[]∧Oe=0:=by rcases he with ⟨_,h⟩|h;omega;exact h
 refine zD 5<|jc (vs:=[.slice xX zs.length u5]) [] (hCt (show bC _ _ _ _ _ from ⟨xX,UI,UG,u5,rfl,UH,M1,M0⟩) (by omega) hpr) ?_
 rintro _ _ ⟨rfl,rfl⟩
 refine jg 0 []<|jn fun b8=>jd 16 [0]<|jl (b:=f14) (off:=0) (m:=13) (vs:=[d0,d1,d2,d3,d4,d5,.slice lN K.before.length kX,.slice lO K.after.length kY,zI K.gone,zI K.new,zI K.af,d8,d9]) 6 ⟨_,_,_,.inl (qj _ _ hf),rfl⟩<|zD 4<|dB [1,1,1,1,1,0,1,0,0] [] (fun(zz:Nat×Bool×Int×Int×Int)=>[(2,zI zz.2.2.1),(3,zI zz.2.2.2.1),(4,zI zz.2.2.2.2),(5,zI Oe),(6,zP f14),(7,.slice xX zs.length u5),(8,zP b8),(9,.bool zz.2.1),(31,zI (K.before.length:Int)),(32,zI (zz.1:Int))]) (fun zz=>[.b b8 (.cells ⟨[zI ((aE zs).c 0 0),zI ((aE zs).c 0 1),zI ((aE zs).c 0 2),zI ((aE zs).c 0 3),zI ((aE zs).c 1 0),zI ((aE zs).c 1 1),zI ((aE zs).c 1 2),zI ((aE zs).c 1 3),zI ((aE zs).c 2 0),zI ((aE zs).c 2 1),zI ((aE zs).c 2 2),zI ((aE zs).c 2 3),zI ((aE zs).c 3 0),zI ((aE zs).c 3 1),zI ((aE zs).c 3 2),zI ((aE zs).c 3 3)]⟩ 122 (0,0)),.b b1 (.cells ⟨[v0,v1,.slice fa 0 fc,v3,v4,v5,v6,v7,zI K.gone,zI K.new,zI K.af,vb]⟩ 40 (0,0)),.l fr]) (fun zz=>zz.1≤K.before.length∧(⟨zz.2.1,zz.2.2.1,zz.2.2.2.1,zz.2.2.2.2⟩:xj)=(acD (aE zs) ((zs.length:Nat):Int) K.after.length zz.1)) (fun zz=>K.before.length-zz.1) (⟨0,false,0,0,((zs.length:Nat):Int)⟩) ⟨by dsimp only;omega,rfl⟩ [0,1,2] ?_
 rintro⟨i,qf,qa,qb,qw⟩ hI K1 bF rest
 dsimp only at hI
 refine zD 5<|zJ 33 ((i:Int) <(K.before.length:Int)) (fun h6=>?_) fun h6=>?_
 ·
  refine zD 15<|jl (b:=f14) (off:=0) (m:=13) (vs:=[d0,d1,d2,d3,d4,d5,.slice lN K.before.length kX,.slice lO K.after.length kY,zI K.gone,zI K.new,zI K.af,d8,d9]) 7 ⟨_,_,_,.inl (qj _ _ hf),rfl⟩<|zD 4<|dB [1,1,1,1,1,0,1,0,0,1,1,0,0,1,1,0,0] [K1] (fun(zz:Nat×Bool×Int×Int×Int)=>[(2,zI zz.2.2.1),(3,zI zz.2.2.2.1),(4,zI zz.2.2.2.2),(5,zI Oe),(6,zP f14),(7,.slice xX zs.length u5),(8,zP b8),(9,.bool zz.2.1),(10,zI (i:Int)),(31,zI (K.before.length:Int)),(32,zI (i:Int)),(40,zI (K.after.length:Int)),(41,zI (zz.1:Int))]) (fun zz=>[.b b8 (.cells ⟨[zI ((aE zs).c 0 0),zI ((aE zs).c 0 1),zI ((aE zs).c 0 2),zI ((aE zs).c 0 3),zI ((aE zs).c 1 0),zI ((aE zs).c 1 1),zI ((aE zs).c 1 2),zI ((aE zs).c 1 3),zI ((aE zs).c 2 0),zI ((aE zs).c 2 1),zI ((aE zs).c 2 2),zI ((aE zs).c 2 3),zI ((aE zs).c 3 0),zI ((aE zs).c 3 1),zI ((aE zs).c 3 2),zI ((aE zs).c 3 3)]⟩ 122 (0,0)),.b b1 (.cells ⟨[v0,v1,.slice fa 0 fc,v3,v4,v5,v6,v7,zI K.gone,zI K.new,zI K.af,vb]⟩ 40 (0,0)),.l fr]) (fun zz=>zz.1≤K.after.length∧(⟨zz.2.1,zz.2.2.1,zz.2.2.2.1,zz.2.2.2.2⟩:xj)=(BC (aE zs) ((zs.length:Nat):Int) i (acD (aE zs) ((zs.length:Nat):Int) K.after.length i) zz.1)) (fun zz=>K.after.length-zz.1) (⟨0,qf,qa,qb,qw⟩) ⟨by dsimp only;omega,hI.2⟩ [0,1,2] ?_
  rintro⟨j,qf,qa,qb,qw⟩ hJ K2 kL rest
  dsimp only at hJ
  refine zD 5<|zJ 42 ((j:Int) <(K.after.length:Int)) (fun h7=>?_) fun h7=>?_
  ·
   refine zD 10 ?_
   have iL:=Ia zs i j
   refine zD 3<|KZ (b:=b8) (off:=0) (len:=4) (sz:=4) (i:Int) (by omega)<|KZ (b:=b8) (off:=0+(i:Int).toNat*4) (len:=4) (sz:=1) (j:Int) (by omega)<|kJ (b:=b8) (off:=0+(i:Int).toNat*4+(j:Int).toNat*1) (m:=1) (vs:=[zI ((aE zs).c i j)]) 0 [0] [(b8,.cells ⟨[zI ((aE zs).c 0 0),zI ((aE zs).c 0 1),zI ((aE zs).c 0 2),zI ((aE zs).c 0 3),zI ((aE zs).c 1 0),zI ((aE zs).c 1 1),zI ((aE zs).c 1 2),zI ((aE zs).c 1 3),zI ((aE zs).c 2 0),zI ((aE zs).c 2 1),zI ((aE zs).c 2 2),zI ((aE zs).c 2 3),zI ((aE zs).c 3 0),zI ((aE zs).c 3 1),zI ((aE zs).c 3 2),zI ((aE zs).c 3 3)]⟩ 122 (0,0))] (fun s _ hZ=>sP (hZ _ (.head _)) (E7 (m:=aE zs) (by omega) (by omega)))<|zD 4<|KZ (b:=b8) (off:=0) (len:=4) (sz:=4) (i:Int) (by omega)<|KZ (b:=b8) (off:=0+(i:Int).toNat*4) (len:=4) (sz:=1) (j:Int) (by omega)<|kJ (b:=b8) (off:=0+(i:Int).toNat*4+(j:Int).toNat*1) (m:=1) (vs:=[zI ((aE zs).c i j)]) 0 [0] [(b8,.cells ⟨[zI ((aE zs).c 0 0),zI ((aE zs).c 0 1),zI ((aE zs).c 0 2),zI ((aE zs).c 0 3),zI ((aE zs).c 1 0),zI ((aE zs).c 1 1),zI ((aE zs).c 1 2),zI ((aE zs).c 1 3),zI ((aE zs).c 2 0),zI ((aE zs).c 2 1),zI ((aE zs).c 2 2),zI ((aE zs).c 2 3),zI ((aE zs).c 3 0),zI ((aE zs).c 3 1),zI ((aE zs).c 3 2),zI ((aE zs).c 3 3)]⟩ 122 (0,0))] (fun s _ hZ=>sP (hZ _ (.head _)) (E7 (m:=aE zs) (by omega) (by omega)))<|ja ((zs.length:Int)-((aE zs).c i j)) (by omega)<|jmx (k:= .i64) (a:=((aE zs).c i j)) (b:=((zs.length:Int)-((aE zs).c i j)))<|zD 8<|zJ 60 ((max ((aE zs).c i j) ((zs.length:Int)-((aE zs).c i j))) <qw) (fun h8=>?_) fun h8=>?_
   ·
    refine zD 11<|ja ((j:Int)+1) (by omega)<|zD 2<|bE kL (⟨j+1,true,(i:Int),(j:Int),(max ((aE zs).c i j) ((zs.length:Int)-((aE zs).c i j)))⟩) ⟨by dsimp only;omega,ay6 hJ.2 (by assumption)⟩ (by dsimp only;omega) [0,1,2] (Sub.refl _)
   refine zD 3<|ja ((j:Int)+1) (by omega)<|zD 2<|bE kL (⟨j+1,qf,qa,qb,qw⟩) ⟨by dsimp only;omega,akq hJ.2 (by assumption)⟩ (by dsimp only;omega) [0,1,2] (Sub.refl _)
  refine zD 3<|ja ((i:Int)+1) (by omega)<|zD 2<|bE bF (⟨i+1,qf,qa,qb,qw⟩) ⟨by dsimp only;omega,by have:=hJ.2;rw[show j=K.after.length by omega] at this;exact this⟩ (by dsimp only;omega) [0,1,2] (Sub.refl _)
 refine zD 8<|js 67 (!qf) (fun h9=>?_) (fun h9=>?_)
 ·
  try simp only[zB] at h9
  refine zD 9<|Tp qC.a.a (.tuple ⟨[zI 0,zI 0,zI 0,zI 11]⟩) [2] [] (cg.trans qj) ⟨zs,_,_,_,_,hz,rfl,rfl,.inr ⟨uO.1,by have:=hI.2;rw[show i=K.before.length by omega] at this;rw[←this];simp only[WO];cases qf<;>first|rfl|contradiction|simp_all⟩⟩
 try simp only[zB] at h9
 refine zD 13<|Tp qC.a.a (.tuple ⟨[zI qa,zI qb,zI qw,zI 0]⟩) [2] [] (cg.trans qj) ⟨zs,_,_,_,_,hz,rfl,rfl,.inr ⟨uO.1,by have:=hI.2;rw[show i=K.before.length by omega] at this;rw[←this];simp only[WO];cases qf<;>first|rfl|contradiction|simp_all⟩⟩
def Jf:Value→Int
 | .int _ n=>n
 |_=>0
def T9(f:P4→Int)(F:List (P4×Value)):Int:=(F.map fun x=>f x.1*Jf x.2).sum
def pk(x:aj):P4:=(x.w0,x.w1,x.w2,x.w3)
def aek(f:P4→Int)(zs:List aj):Int:=(zs.map fun x=>f (pk x)).sum
structure CF(F:List (P4×Value))(zs:List aj):Prop where
 sum:∀f,T9 f F=aek f zs
 val:∀x∈F,∃n,x.2= zI n∧0≤n∧n≤zs.length
 key:∀x∈F,∃z∈zs,x.1=pk z
theorem CF.nil:CF [] []:=⟨fun _=>rfl,by simp,by simp⟩
theorem F3(g:κ×Value→Int):∀ {F:List (κ×Value)} {i:Nat} {k:κ} {u v:Value},F[i]?=some (k,u)→((tK k v F i).map g).sum=(F.map g).sum-g (k,u)+g (k,v)
 | [],_,_,_,_,h=>by simp at h
 |x::F,0,k,u,v,h=>by simp at h;subst h;simp only[tK,List.map_cons,List.sum_cons];omega
 |x::F,i+1,k,u,v,h=>by
  simp at h
  have:=F3 g (v:=v) h
  simp only[tK,List.map_cons,List.sum_cons];omega
theorem wq:∀ {F:List (κ×Value)} {i:Nat} {k:κ} {v:Value} {x:κ×Value},x∈tK k v F i→x=(k,v)∨x∈F
 | [],_,_,_,_,h=>by cases h
 |y::F,0,k,v,x,h=>by
  rcases List.mem_cons.1 h with h|h
  ·exact .inl h
  exact .inr (List.mem_cons_of_mem _ h)
 |y::F,i+1,k,v,x,h=>by
  rcases List.mem_cons.1 h with h|h
  ·exact .inr (by rw[h];exact List.mem_cons_self)
  exact(wq h).imp id (List.mem_cons_of_mem _)
theorem CF.look{F:List (P4×Value)}{zs:List aj}(h:CF F zs)(k:P4):∃n,Q7 (zI 0) false k F= zI n∧0≤n∧n≤zs.length:=by
 simp only[Q7,lkM]
 cases hf:su k F 0 with
 |none=>exact⟨0,rfl,by omega,by omega⟩
 |some u=>
  obtain⟨j,u⟩:=u
  have:=(qv hf).2
  exact h.val _ (zL this)
theorem CF.upd{F F1:List (P4×Value)}{zs:List aj}{x:aj}(h:CF F zs)(h1:((∃u,su (pk x) F 0=some u)∧F1=F)∨(su (pk x) F 0=none∧F1=F++[(pk x,zI 0)]))(hl:Q7 (zI 0) false (pk x) F= zI n)(hn:0≤n∧n≤zs.length):CF (mi (pk x) (zI (n+1)) F1) (zs++[x]):=by
 have hz (f:P4→Int):aek f (zs++[x])=aek f zs+f (pk x):=by simp[aek]
 rcases h1 with ⟨⟨⟨j,u⟩,hf⟩,rfl⟩| ⟨hf,rfl⟩
 ·have hu:=qv hf
  simp only[Nat.sub_zero] at hu
  have qO:u= zI n:=by simpa [Q7,lkM,hf] using hl
  subst qO
  simp only[mi,hf]
  refine⟨fun f=>?_,fun y hy=>?_,fun y hy=>?_⟩
  ·rw[hz,←h.sum,T9,F3 _ hu.2,T9]
   simp only[Jf,Int.mul_add,Int.mul_one];omega
  ·rcases wq hy with rfl|hy
   ·exact⟨n+1,rfl,by omega,by simp;omega⟩
   obtain⟨m,h1,h2⟩:=h.val _ hy
   exact⟨m,h1,by omega,by simp;omega⟩
  rcases wq hy with rfl|hy
  ·exact⟨x,by simp,rfl⟩
  obtain⟨z,h1,h2⟩:=h.key _ hy
  exact⟨z,by simp[h1],h2⟩
 have qO:n=0:=by
  have:(Value.int .i64 0)= zI n:=by simpa [Q7,lkM,hf] using hl
  cases this;rfl
 subst qO
 have hs:mi (pk x) (zI (0+1)) (F++[(pk x,zI 0)])=tK (pk x) (zI (0+1)) (F++[(pk x,zI 0)]) (0+F.length):=by
  simp only[mi,Bg (v:= zI 0) hf]
 have hg:(F++[(pk x,Value.int .i64 0)])[0+F.length]?=some (pk x,zI 0):=by simp
 rw[hs]
 refine⟨fun f=>?_,fun y hy=>?_,fun y hy=>?_⟩
 ·rw[hz,←h.sum,T9,F3 _ hg,T9]
  simp[Jf]
 ·rcases wq hy with rfl|hy
  ·exact⟨0+1,rfl,by omega,by simp;omega⟩
  rcases List.mem_append.1 hy with hy|hy
  ·obtain⟨m,h1,h2⟩:=h.val _ hy
   exact⟨m,h1,by omega,by simp;omega⟩
  rw[List.mem_singleton] at hy;subst hy
  exact⟨0,rfl,by omega,by omega⟩
 rcases wq hy with rfl|hy
 ·exact⟨x,by simp,rfl⟩
 rcases List.mem_append.1 hy with hy|hy
 ·obtain⟨z,h1,h2⟩:=h.key _ hy
  exact⟨z,by simp[h1],h2⟩
 rw[List.mem_singleton] at hy;subst hy
 exact⟨x,by simp,rfl⟩
def fV(i j:Nat):Value→Int
 | .agg ⟨l⟩=>(match l[i]? with
  |some (.int _ n)=>if n=(j:Int)+1 then 1 else 0
  |_=>0)
 |_=>0
def sI(i j:Nat)(l:List MapEntry):Int:=(l.map fun e=>fV i j e.key*Jf e.val).sum
theorem ael{F:List (P4×Value)}{es:Array MapEntry}(h:tA IT F es ck)(i j:Nat):sI i j es.toList=T9 (fun k=>fV i j (IT k)) F:=by
 have h1:=congrArg (List.map fun p:Value×Value=>fV i j p.1*Jf p.2) h.1
 simp only[List.map_map] at h1
 unfold sI T9
 exact congrArg List.sum h1
theorem PT(i j:Nat):∀ {l:List MapEntry} {e:MapEntry},(l.map (·.born)).Nodup→e∈l→sI i j l=fV i j e.key*Jf e.val+sI i j (l.filter fun x=> !decide (x.born=e.born))
 | [],_,_,h=>by cases h
 |x::l,e,hn,h=>by
  simp only[List.map_cons,List.nodup_cons] at hn
  rcases List.mem_cons.1 h with rfl|h
  ·have:l.filter (fun y=> !decide (y.born=e.born))=l:=by
    refine List.filter_eq_self.2 fun y hy=>?_
    have:y.born≠e.born:=fun h=>hn.1 (h▸List.mem_map_of_mem hy)
    simp[this]
   rw[List.filter_cons_of_neg (by simp),this];rfl
  have dH:x.born≠e.born:=fun k=>hn.1 (k▸List.mem_map_of_mem h)
  rw[List.filter_cons_of_pos (by simp[dH])]
  have:=PT i j hn.2 h
  simp only[sI,List.map_cons,List.sum_cons] at this ⊢
  omega
theorem U1(es:Array MapEntry)(seen:List Nat)(b:Nat):cL es (seen++[b])=(cL es seen).filter fun x=> !decide (x.born=b):=by
 simp only[cL,List.filter_filter]
 refine List.filter_congr fun x _=>?_
 simp only[List.contains_eq_mem,List.mem_append,List.mem_singleton,Bool.decide_or,Bool.not_or]
 rw[Bool.and_comm]
theorem JZ{F:List (P4×Value)}{es:Array MapEntry}(h:tA IT F es ck){e:MapEntry}(he:e∈cL es seen)(i j:Nat):sI i j (cL es seen)=fV i j e.key*Jf e.val+sI i j (cL es (seen++[e.born])):=by
 rw[U1]
 exact PT i j ((List.filter_sublist.map _).nodup h.2.1) he
theorem ar6(i j:Nat)(v:Value):fV i j v=0∨fV i j v=1:=by
 unfold fV
 split<;>try exact .inl rfl
 split<;>try exact .inl rfl
 split<;>simp
theorem PS{i j:Nat}:∀ {l:List MapEntry},(∀e∈l,0≤Jf e.val)→0≤sI i j l
 | [],_=>Int.le_refl _
 |x::l,h=>by
  have h1:=PS (i:=i) (j:=j) (l:=l) fun e he=>h e (List.mem_cons_of_mem _ he)
  have h2:=h x List.mem_cons_self
  simp only[sI,List.map_cons,List.sum_cons] at h1 ⊢
  rcases ar6 i j x.key with h3|h3<;>rw[h3]<;>omega
theorem al3{F:List (P4×Value)}{zs:List aj}(h:CF F zs){es:Array MapEntry}(hE:tA IT F es ck):∀e∈cL es seen,0≤Jf e.val:=fun e he=>by
 have h1:e∈es.toList:=(List.mem_filter.1 he).1
 have h2:(e.key,e.val)∈es.toList.map (fun e=>(e.key,e.val)):=List.mem_map_of_mem (f:=fun e:MapEntry=>(e.key,e.val)) h1
 rw[hE.1] at h2
 obtain⟨y,h3,h4⟩:=List.mem_map.1 h2
 obtain⟨n,h5,h6,_⟩:=h.val _ h3
 simp only[Prod.mk.injEq] at h4
 rw[←h4.2,h5];exact h6
theorem Zv(x:aj)(j:Nat)(hi:i <4):fV i j (IT (pk x))=if pI x i=(j:Int)+1 then 1 else 0:=by
 rcases AV hi with rfl|rfl|rfl|rfl<;>rfl
theorem Xv(p:α→Prop)[DecidablePred p]:∀l:List α,(l.map fun x=>if p x then (1:Int) else 0).sum=((l.filter fun x=>decide (p x)).length:Int)
 | []=>rfl
 |x::l=>by
  rw[List.map_cons,List.sum_cons,Xv p l]
  by_cases h:p x
  ·rw[if_pos h,List.filter_cons_of_pos (by simpa using h),List.length_cons];omega
  rw[if_neg h,List.filter_cons_of_neg (by simpa using h)];omega
theorem CF.total{F:List (P4×Value)}{zs:List aj}(h:CF F zs){es:Array MapEntry}(hE:tA IT F es ck)(j:Nat)(hi:i <4):sI i j (cL es [])=(aE zs).c i j:=by
 rw[Cy,ael hE,h.sum,aek]
 simp only[Zv _ j hi]
 exact Xv (fun x=>pI x i=(j:Int)+1) zs
theorem adq{z:aj}(h:(z.w0==0&&(z.w1==0&&(z.w2==0&&(z.w3==0&&true))))=true)(i:Nat):pI z i=0:=by
 simp only[Bool.and_eq_true,beq_iff_eq] at h
 match i with
 |0=>exact h.1
 |1=>exact h.2.1
 |2=>exact h.2.2.1
 |_+3=>exact h.2.2.2.1
def EV(m:eX)(S T:Nat→Nat→Int):Prop:=∀i j,i <4→j <4→0≤m.c i j∧m.c i j+S i j=T i j
theorem EV.init{F:List (P4×Value)}{zs:List aj}(h:CF F zs){es:Array MapEntry}(hE:tA IT F es ck):EV ⟨fun _ _=>0⟩ (fun i j=>sI i j (cL es [])) (aE zs).c:=fun i j hi _=>⟨Int.le_refl _,by show 0+sI i j (cL es [])=_;rw[h.total hE j hi];exact Int.zero_add _⟩
def inS(z:aj)(n:Int)(q:Nat)(R:Nat→Nat→Int):Nat→Nat→Int:=fun i j=>(if i <q then 0 else fV i j (IT (pk z))*n)+R i j
theorem EV.zero{m:eX}{z:aj}{n:Int}{es:Array MapEntry}{ck:Nat}{F:List (P4×Value)}{T:Nat→Nat→Int}{seen:List Nat}{e:MapEntry}(hE:tA IT F es ck)(he:e∈cL es seen)(hk:e.key=IT (pk z))(hz:∀i,pI z i=0)(h:EV m (fun i j=>sI i j (cL es seen)) T):EV m (fun i j=>sI i j (cL es (seen++[e.born]))) T:=fun i j hi hj=>by
 have h1:=h i j hi hj
 have h2:=JZ hE he i j
 rw[hk,Zv z j hi,if_neg (by rw[hz];omega),Int.zero_mul,Int.zero_add] at h2
 dsimp only at h1 ⊢
 rw[h2] at h1;exact h1
theorem EV.open_{m:eX}{z:aj}{es:Array MapEntry}{F:List (P4×Value)}{e:MapEntry}(hE:tA IT F es ck)(he:e∈cL es seen)(hk:e.key=IT (pk z))(hv:e.val= zI n)(h:EV m (fun i j=>sI i j (cL es seen)) T):EV m (inS z n 0 fun i j=>sI i j (cL es (seen++[e.born]))) T:=fun i j hi hj=>by
 have h1:=h i j hi hj
 have h2:=JZ hE he i j
 rw[hk,hv] at h2
 simp only[Jf] at h2
 simp only[inS,if_neg (Nat.not_lt_zero i)]
 dsimp only at h1
 rw[h2] at h1;exact h1
theorem EV.close{m:eX}{z:aj}(h:EV m (inS z n 4 R) T):EV m R T:=fun i j hi hj=>by
 have h1:=h i j hi hj
 simp only[inS,if_pos hi,Int.zero_add] at h1
 exact h1
theorem EV.skip{m:eX}{z:aj}(h:EV m (inS z n q R) T)(hq:¬pI z q>0):EV m (inS z n (q+1) R) T:=fun i j hi hj=>by
 have h1:=h i j hi hj
 simp only[inS] at h1 ⊢
 by_cases e:i=q
 ·subst e
  rw[if_neg (Nat.lt_irrefl _),Zv z j hi,if_neg (by omega),Int.zero_mul] at h1
  rw[if_pos (Nat.lt_succ_self _)];exact h1
 by_cases e2:i <q
 ·rw[if_pos e2] at h1;rw[if_pos (by omega)];exact h1
 rw[if_neg e2] at h1;rw[if_neg (by omega)];exact h1
theorem EV.add{m:eX}{z:aj}(h:EV m (inS z n q R) T)(hn:0≤n)(hq:pI z q>0)(hq4:q <4):EV (rK m q (pI z q-1).toNat (m.c q (pI z q-1).toNat+n)) (inS z n (q+1) R) T:=fun i j hi hj=>by
 have h1:=h i j hi hj
 simp only[inS,rK] at h1 ⊢
 by_cases e:i=q
 ·subst e
  rw[if_neg (Nat.lt_irrefl _),Zv z j hi] at h1
  rw[if_pos (Nat.lt_succ_self _)]
  by_cases e2:j=(pI z i-1).toNat
  ·rw[if_pos (by omega)] at h1
   rw[if_pos ⟨rfl,e2⟩,←e2];omega
  rw[if_neg (by omega)] at h1
  rw[if_neg (by omega)];omega
 rw[if_neg (c:=i=q∧j=(pI z q-1).toNat) (by omega)]
 by_cases e2:i <q
 ·rw[if_pos e2] at h1;rw[if_pos (by omega)];exact h1
 rw[if_neg e2] at h1;rw[if_neg (by omega)];exact h1
theorem EV.bound{m:eX}{z:aj}(h:EV m (inS z n q R) T)(hR:∀i j,0≤R i j)(hn:0≤n){j:Nat}(hi:i <4)(hj:j <4):0≤m.c i j∧m.c i j≤T i j:=by
 have h1:=h i j hi hj
 have h2:=hR i j
 simp only[inS] at h1
 split at h1
 ·omega
 rcases ar6 i j (IT (pk z)) with h3|h3<;>rw[h3] at h1<;>omega
theorem EV.fin{m:eX}{zs:List aj}{es:Array MapEntry}(h:EV m (fun i j=>sI i j (cL es seen)) (aE zs).c)(he:cL es seen=[]):zv m=zv (aE zs):=by
 have k (i j:Nat) (hi:i <4) (hj:j <4):m.c i j=(aE zs).c i j:=by
  have:=(h i j hi hj).2
  rw[he] at this
  simpa [sI] using this
 simp only[zv,k 0 0 (by decide) (by decide),k 0 1 (by decide) (by decide),k 0 2 (by decide) (by decide),k 0 3 (by decide) (by decide),k 1 0 (by decide) (by decide),k 1 1 (by decide) (by decide),k 1 2 (by decide) (by decide),k 1 3 (by decide) (by decide),k 2 0 (by decide) (by decide),k 2 1 (by decide) (by decide),k 2 2 (by decide) (by decide),k 2 3 (by decide) (by decide),k 3 0 (by decide) (by decide),k 3 1 (by decide) (by decide),k 3 2 (by decide) (by decide),k 3 3 (by decide) (by decide)]
theorem auw{z:aj}(h:q <4):nth [zI z.w0,zI z.w1,zI z.w2,zI z.w3] ((q:Int).toNat*1)=some (zI (pI z q)):=by
 rcases AV h with rfl|rfl|rfl|rfl<;>rfl
theorem af1{m:eX}{a:Nat}(h:a <4)(k:0≤j∧j <4):nth (zv m) (0+(a:Int).toNat*4+j.toNat*1)=some (zI (m.c a j.toNat)):=by
 obtain⟨b,rfl⟩:=Int.eq_ofNat_of_zero_le k.1
 exact E7 h (by omega)
theorem af0{m:eX}{a:Nat}{v:Int}(h:a <4)(k:0≤j∧j <4):dA (zv m) (0+(a:Int).toNat*4+j.toNat*1) [zI v]=zv (rK m a j.toNat v):=by
 obtain⟨b,rfl⟩:=Int.eq_ofNat_of_zero_le k.1
 exact anh h (by omega)
theorem af2{m:eX}{a:Nat}{v:Value}(h:a <4)(k:0≤j∧j <4):Nat.ble ((0+(a:Int).toNat*4+j.toNat*1)+[v].length) (zv m).length=true:=by
 obtain⟨b,rfl⟩:=Int.eq_ofNat_of_zero_le k.1
 exact ani h (by omega)
theorem aTy(z:aj):EqV zT 126 (v4 z.w0 z.w1 z.w2 z.w3) (v4 0 0 0 0) (z.w0==0&&(z.w1==0&&(z.w2==0&&(z.w3==0&&true)))):=Oc (aHK (dep:=9998) (ni Tryz.typeInfo126 Tryz.underlying126 rfl rfl rfl rfl rfl rfl) mz _ _ _ _ _ _ _ _)
theorem aN0:og zT 126:=by unfold og;kernel_rfl
theorem Q5{F F1:List (P4×Value)}{k:P4}(h1:((∃u,su k F 0=some u)∧F1=F)∨(su k F 0=none∧F1=F++[(k,zI 0)]))(hl:Q7 (zI 0) false k F= zI n):Q7 (zI 0) false k F1= zI n:=by
 rcases h1 with ⟨_,rfl⟩| ⟨hf,rfl⟩
 ·exact hl
 simp only[Q7,lkM,Bg (v:= zI 0) hf]
 simpa [Q7,lkM,hf] using hl
theorem agP{v:Value}{zs:List aj}(hl:bC ro v 8 cQ zs)(hn:zs.length≤100000)(hp:∀x∈zs,∀q,0≤pI x q∧pI x q≤4):dE zT 54 [v] ro [] (fun r Y=>r= .agg ⟨zv (aE zs)⟩∧Y=[]):=by
 obtain⟨fw,rQ,rP,eL,rfl,tO,lM,mC⟩:=hl
 refine zE<|zD 2<|jn fun b2=>zD 3<|jmk IT fun Gn L11 ahS=>zD 10<|dB [1,1,0,1,0,0] [] (fun(zz:Nat×(List (P4×Value))×Cells)=>[(2,zP b2),(3,(.map (some Gn))),(12,.slice fw zs.length eL),(13,zI (zs.length:Int)),(14,zI (zz.1:Int))]) (fun(zz:Nat×(List (P4×Value))×Cells)=>[.l zz.2.2,.b b2 (.cells ⟨[zI 0,zI 0,zI 0,zI 0,zI 0,zI 0,zI 0,zI 0,zI 0,zI 0,zI 0,zI 0,zI 0,zI 0,zI 0,zI 0]⟩ 122 (0,0))]) (fun(zz:Nat×(List (P4×Value))×Cells)=>zz.1≤zs.length∧jP Gn IT zz.2.1 zz.2.2∧CF zz.2.1 (zs.take zz.1)) (fun(zz:Nat×(List (P4×Value))×Cells)=>zs.length-zz.1) (⟨0,[],L11⟩) ⟨by dsimp only;omega,ahS,CF.nil⟩ [0,1] ?_
 rintro⟨k,F,LM⟩ hI K1 bF rest
 dsimp only at hI
 refine zD 5<|zJ 15 ((k:Int) <(zs.length:Int)) (fun h1=>?_) fun h1=>?_
 ·
  refine zD 6 ?_
  obtain⟨BL,mH⟩:=zG zs k
  refine gY eL 8 lM mH<|jl 0 (mC _ _ mH)<|jn fun b5=>jd 2 [0] ?_
  obtain⟨nk,hlk,hnk⟩:=hI.2.2.look (pk BL)
  have RN:(zs.take k).length=k:=by rw[List.length_take];omega
  refine jd 4 [0]<|IV [3,5] ⟨fun z2 t3 oZ=>?_,fun z5 t6 Sb=>?_,trivial⟩
  ·
   refine jlu (kv:=IT) (F:=F) (r:=Gn) (K:=126) (pk BL) (zI 0) false [1] LM agw (fun s _ hZ=>hI.2.1.has hZ)<|eo oZ [0,1,2]<|jw 3 (zI nk) hlk<|ja (nk+1) (by omega)<|aS 5 fun aae aat hL8=>jme (kv:=IT) (F:=F) (r:=Gn) (L:=LM) 1 (pk BL) agw mz hI.2.1 fun Fm4 bm4 cm4 Lm4 bdG hm4=>gx hL8 []<|aS 6 fun TO T5 Sa=>zD 1<|eo Sa [0,1,2]<|aS 7 fun Fx FY wG=>jes 0 (zI (nk+1)) hm4 fun Lm7 hm7=>fU wG<|zD 2<|ja ((k:Int)+1) (by omega)<|zD 2<|bE bF (⟨k+1,_,Lm7⟩) ⟨by dsimp only;omega,hm7,by dsimp only;rw[iA mH];exact hI.2.2.upd (by assumption) hlk hnk⟩ (by dsimp only;omega) [0,2] (Sub.refl _)
  refine jme (kv:=IT) (F:=F) (r:=Gn) (L:=LM) 1 (pk BL) agw mz hI.2.1 fun Fm9 bm9 cm9 Lm9 aGS hm9=>fU Sb<|IV [3,6] ⟨fun z11 t12 NW=>?_,fun z14 t15 EG=>?_,trivial⟩
  ·
   refine jlu (kv:=IT) (F:=Fm9) (r:=Gn) (K:=126) (pk BL) (zI 0) false [0] Lm9 agw (fun s _ hZ=>hm9.own.has hZ)<|fU NW<|jw 3 (zI nk) (Q5 aGS hlk)<|ja (nk+1) (by omega)<|aS 6 fun Xc Xm C2=>zD 1<|eo C2 [0,1,2]<|aS 7 fun adp aeb NU=>jes 0 (zI (nk+1)) hm9 fun aUD aFx=>fU NU<|zD 2<|ja ((k:Int)+1) (by omega)<|zD 2<|bE bF (⟨k+1,_,aUD⟩) ⟨by dsimp only;omega,aFx,by dsimp only;rw[iA mH];exact hI.2.2.upd (by assumption) hlk hnk⟩ (by dsimp only;omega) [0,2] (Sub.refl _)
  refine zD 1<|fU EG<|aS 3 fun ap1 aqn V1=>jlu (kv:=IT) (F:=Fm9) (r:=Gn) (K:=126) (pk BL) (zI 0) false [0] Lm9 agw (fun s _ hZ=>hm9.own.has hZ)<|fU V1<|jw 3 (zI nk) (Q5 aGS hlk)<|ja (nk+1) (by omega)<|aS 7 fun aAz aBy V0=>jes 0 (zI (nk+1)) hm9 fun aUC ahR=>fU V0<|zD 2<|ja ((k:Int)+1) (by omega)<|zD 2<|bE bF (⟨k+1,_,aUC⟩) ⟨by dsimp only;omega,ahR,by dsimp only;rw[iA mH];exact hI.2.2.upd (by assumption) hlk hnk⟩ (by dsimp only;omega) [0,2] (Sub.refl _)
 refine zD 4<|jn fun b6=>jf [1] LM (fun aZD av8 aw2=>?_)
 have hCF:CF F zs:=by have:=hI.2.2;rwa[show k=zs.length by omega,List.take_length] at this
 obtain⟨BS,Ja,rfl,HH⟩:=hI.2.1
 refine zD 5<|jmR (aw2 _ (.head _)) fun r27=>jg 0 [.b r27 (uL Gn Ja [])]<|zD 2<|dB [1,1,1,1,0,1,0,0] [] (fun(zz:(List Nat)×eX)=>[(2,zP b2),(6,zP b6),(27,zP r27)]) (fun zz=>[.b r27 (uL Gn Ja zz.1),.b b6 (.cells ⟨[zI (zz.2.c 0 0),zI (zz.2.c 0 1),zI (zz.2.c 0 2),zI (zz.2.c 0 3),zI (zz.2.c 1 0),zI (zz.2.c 1 1),zI (zz.2.c 1 2),zI (zz.2.c 1 3),zI (zz.2.c 2 0),zI (zz.2.c 2 1),zI (zz.2.c 2 2),zI (zz.2.c 2 3),zI (zz.2.c 3 0),zI (zz.2.c 3 1),zI (zz.2.c 3 2),zI (zz.2.c 3 3)]⟩ 122 (0,0)),.b b2 (.cells ⟨[zI 0,zI 0,zI 0,zI 0,zI 0,zI 0,zI 0,zI 0,zI 0,zI 0,zI 0,zI 0,zI 0,zI 0,zI 0,zI 0]⟩ 122 (0,0))]) (fun zz=>EV zz.2 (fun i j=>sI i j (cL BS zz.1)) (aE zs).c) (fun zz=>(cL BS zz.1).length) (⟨[],⟨fun _ _=>0⟩⟩) (EV.init hCF HH) [0,1,2] ?_
 rintro⟨seen,m⟩ hI K21 aoL rest
 dsimp only at hI
 refine zD 2<|jmN (it:=r27) (kv:=IT) (seen:=seen) 0 (aw2 _ (.head _)) HH (fun k28 v28 e28 aFX abR aw0 aEA=>?_) (fun avJ=>?_)
 ·
  obtain⟨GP,arw,aFo⟩:=hCF.val _ aFX
  obtain⟨kS,avJ,hkz⟩:=hCF.key _ aFX
  dsimp only at arw hkz
  subst arw
  subst hkz
  have hpz:=hp kS avJ
  have cI:=GY abR
  refine jg 0 [.b r27 (uL Gn Ja (seen++[e28.born]))]<|zD 8<|jmE (it:=r27) 0 (aw2 _ (.head _)) HH abR aw0 aEA<|jg 0 [.b r27 (uL Gn Ja (seen++[e28.born]))]<|zD 2<|jn fun b7=>jd 8 [0,0]<|jeq aN0 (aTy kS)<|zD 1<|js 35 (kS.w0==0&&(kS.w1==0&&(kS.w2==0&&(kS.w3==0&&true)))) (fun h21=>?_) (fun h21=>?_)
  ·
   refine zD 2<|bE aoL (⟨(seen++[e28.born]),m⟩) (hI.zero (n:=0) HH abR aw0 (adq (by assumption))) cI [1,2,3] (Sub.refl _)
  refine jd 8 [0]<|dB [1,1,1,1,0,1,0,0,1,1,0,1,1,1,0,0] [K21] (fun(zz:Nat×eX)=>[(2,zP b2),(6,zP b6),(8,zI GP),(27,zP r27),(36,.agg ⟨[zI kS.w0,zI kS.w1,zI kS.w2,zI kS.w3]⟩),(37,zI (zz.1:Int))]) (fun zz=>[.b r27 (uL Gn Ja (seen++[e28.born])),.b b6 (.cells ⟨[zI (zz.2.c 0 0),zI (zz.2.c 0 1),zI (zz.2.c 0 2),zI (zz.2.c 0 3),zI (zz.2.c 1 0),zI (zz.2.c 1 1),zI (zz.2.c 1 2),zI (zz.2.c 1 3),zI (zz.2.c 2 0),zI (zz.2.c 2 1),zI (zz.2.c 2 2),zI (zz.2.c 2 3),zI (zz.2.c 3 0),zI (zz.2.c 3 1),zI (zz.2.c 3 2),zI (zz.2.c 3 3)]⟩ 122 (0,0)),.b b7 (.cells ⟨[zI kS.w0,zI kS.w1,zI kS.w2,zI kS.w3]⟩ 126 (0,0)),.b b2 (.cells ⟨[zI 0,zI 0,zI 0,zI 0,zI 0,zI 0,zI 0,zI 0,zI 0,zI 0,zI 0,zI 0,zI 0,zI 0,zI 0,zI 0]⟩ 122 (0,0))]) (fun zz=>zz.1≤4∧EV zz.2 (inS kS GP zz.1 (fun i j=>sI i j (cL BS (seen++[e28.born])))) (aE zs).c) (fun zz=>4-zz.1) (⟨0,m⟩) ⟨by dsimp only;omega,hI.open_ HH abR aw0 aEA⟩ [1,2,0,3] ?_
  rintro⟨q,m⟩ hJ K22 aGO rest
  dsimp only at hJ
  refine zD 5<|zJ 38 ((q:Int) <4) (fun Ln=>?_) fun Ln=>?_
  ·
   refine zD 7<|jai (l:=[zI kS.w0,zI kS.w1,zI kS.w2,zI kS.w3]) (q:Int) 4 1 false (by omega) (v:= zI (pI kS q)) (show nth [_,_,_,_] _=_ from auw (by omega))<|zD 8<|zJ 42 ((pI kS q)>0) (fun Fi=>?_) fun Fi=>?_
   ·
    refine zD 4<|ja ((pI kS q)-1) (by have:=hpz q;omega) ?_
    refine KZ (b:=b6) (off:=0) (len:=4) (sz:=4) (q:Int) (by omega)<|KZ (b:=b6) (off:=0+(q:Int).toNat*4) (len:=4) (sz:=1) ((pI kS q)-1) (by have:=hpz q;omega) ?_
    refine kJ (b:=b6) (off:=0+(q:Int).toNat*4+((pI kS q)-1).toNat*1) (m:=1) (vs:=[zI (m.c q (pI kS q-1).toNat)]) 0 [1] [(b6,.cells ⟨[zI (m.c 0 0),zI (m.c 0 1),zI (m.c 0 2),zI (m.c 0 3),zI (m.c 1 0),zI (m.c 1 1),zI (m.c 1 2),zI (m.c 1 3),zI (m.c 2 0),zI (m.c 2 1),zI (m.c 2 2),zI (m.c 2 3),zI (m.c 3 0),zI (m.c 3 1),zI (m.c 3 2),zI (m.c 3 3)]⟩ 122 (0,0))] (fun s _ hZ=>sP (hZ _ (.head _)) (af1 (m:=m) (by omega) (by have:=hpz q;omega))) ?_
    refine zD 1<|ja ((m.c q (pI kS q-1).toNat)+GP) (by have h7:=hJ.2.bound (fun i j=>PS (al3 hCF HH)) aFo.1 (i:=q) (j:=(pI kS q-1).toNat) (by omega) (by have:=hpz q;omega);have h8:=Ia zs q (pI kS q-1).toNat;omega) ?_
    refine KZ (b:=b6) (off:=0) (len:=4) (sz:=4) (q:Int) (by omega)<|KZ (b:=b6) (off:=0+(q:Int).toNat*4) (len:=4) (sz:=1) ((pI kS q)-1) (by have:=hpz q;omega) ?_
    refine aS 10 fun aAy aBx VZ=>jsx 1 b6 (0+(q:Int).toNat*4+((pI kS q)-1).toNat*1) [zI (m.c 0 0),zI (m.c 0 1),zI (m.c 0 2),zI (m.c 0 3),zI (m.c 1 0),zI (m.c 1 1),zI (m.c 1 2),zI (m.c 1 3),zI (m.c 2 0),zI (m.c 2 1),zI (m.c 2 2),zI (m.c 2 3),zI (m.c 3 0),zI (m.c 3 1),zI (m.c 3 2),zI (m.c 3 3)] [zI ((m.c q (pI kS q-1).toNat)+GP)] 122 (by intro v hv;rw[List.mem_singleton] at hv;subst hv;rfl) (af2 (m:=m) (by omega) (by have:=hpz q;omega)) ?_
    refine jmw 0 [.b b6 (.cells ⟨[zI ((rK m q (pI kS q-1).toNat (m.c q (pI kS q-1).toNat+GP)).c 0 0),zI ((rK m q (pI kS q-1).toNat (m.c q (pI kS q-1).toNat+GP)).c 0 1),zI ((rK m q (pI kS q-1).toNat (m.c q (pI kS q-1).toNat+GP)).c 0 2),zI ((rK m q (pI kS q-1).toNat (m.c q (pI kS q-1).toNat+GP)).c 0 3),zI ((rK m q (pI kS q-1).toNat (m.c q (pI kS q-1).toNat+GP)).c 1 0),zI ((rK m q (pI kS q-1).toNat (m.c q (pI kS q-1).toNat+GP)).c 1 1),zI ((rK m q (pI kS q-1).toNat (m.c q (pI kS q-1).toNat+GP)).c 1 2),zI ((rK m q (pI kS q-1).toNat (m.c q (pI kS q-1).toNat+GP)).c 1 3),zI ((rK m q (pI kS q-1).toNat (m.c q (pI kS q-1).toNat+GP)).c 2 0),zI ((rK m q (pI kS q-1).toNat (m.c q (pI kS q-1).toNat+GP)).c 2 1),zI ((rK m q (pI kS q-1).toNat (m.c q (pI kS q-1).toNat+GP)).c 2 2),zI ((rK m q (pI kS q-1).toNat (m.c q (pI kS q-1).toNat+GP)).c 2 3),zI ((rK m q (pI kS q-1).toNat (m.c q (pI kS q-1).toNat+GP)).c 3 0),zI ((rK m q (pI kS q-1).toNat (m.c q (pI kS q-1).toNat+GP)).c 3 1),zI ((rK m q (pI kS q-1).toNat (m.c q (pI kS q-1).toNat+GP)).c 3 2),zI ((rK m q (pI kS q-1).toNat (m.c q (pI kS q-1).toNat+GP)).c 3 3)]⟩ 122 (0,0))] (L:=[(b6,.cells ⟨dA [zI (m.c 0 0),zI (m.c 0 1),zI (m.c 0 2),zI (m.c 0 3),zI (m.c 1 0),zI (m.c 1 1),zI (m.c 1 2),zI (m.c 1 3),zI (m.c 2 0),zI (m.c 2 1),zI (m.c 2 2),zI (m.c 2 3),zI (m.c 3 0),zI (m.c 3 1),zI (m.c 3 2),zI (m.c 3 3)] (0+(q:Int).toNat*4+((pI kS q)-1).toNat*1) [zI ((m.c q (pI kS q-1).toNat)+GP)]⟩ 122 (0,0))]) (by rw[af0 (m:=m) (by omega) (by have:=hpz q;omega)];rfl) ?_
    refine gx VZ []<|zD 2<|ja ((q:Int)+1) (by omega)<|zD 2<|bE aGO (⟨q+1,(rK m q (pI kS q-1).toNat (m.c q (pI kS q-1).toNat+GP))⟩) ⟨by dsimp only;omega,hJ.2.add aFo.1 (by assumption) (by omega)⟩ (by dsimp only;omega) [1,0,2,3] (Sub.refl _)
   refine zD 3<|ja ((q:Int)+1) (by omega)<|zD 2<|bE aGO (⟨q+1,m⟩) ⟨by dsimp only;omega,hJ.2.skip (by assumption)⟩ (by dsimp only;omega) (zN 0 4) (Sub.refl _)
  refine zD 2<|bE aoL (⟨(seen++[e28.born]),m⟩) (EV.close (z:=kS) (n:=GP) (by have:=hJ.2;rwa[show q=4 by omega] at this)) cI [0,1,3] (Sub.refl _)
 refine jg 0 [.b r27 (uL Gn Ja seen)]<|jd 11 [1,2]<|aL q0.a (.agg ⟨[zI (m.c 0 0),zI (m.c 0 1),zI (m.c 0 2),zI (m.c 0 3),zI (m.c 1 0),zI (m.c 1 1),zI (m.c 1 2),zI (m.c 1 3),zI (m.c 2 0),zI (m.c 2 1),zI (m.c 2 2),zI (m.c 2 3),zI (m.c 3 0),zI (m.c 3 1),zI (m.c 3 2),zI (m.c 3 3)]⟩) [2] [] [] av8 ⟨_,_,rfl,rfl,by rw[←hI.fin avJ],rfl⟩
theorem SO:xg:=fun hl hn hp=>agP hl hn hp
theorem Be:∀(l:List Int) (a:Int),l.foldl min a=a∨l.foldl min a∈l
 | [],_=> .inl rfl
 |y::l,a=>by
  simp only[List.foldl_cons]
  rcases Be l (min a y) with h|h
  ·rw[h]
   rcases(by omega:min a y=a∨min a y=y) with e|e
   ·exact .inl e
   rw[e];exact .inr List.mem_cons_self
  exact .inr (List.mem_cons_of_mem _ h)
theorem QX:∀ {l:List Int},l≠[]→u6 l∈l
 | [],h=>absurd rfl h
 |y::l,_=>by
  show l.foldl min y∈_
  rcases Be l y with h|h
  ·rw[h];exact List.mem_cons_self
  exact List.mem_cons_of_mem _ h
theorem KN{l m:List Int}(h:l.Perm m)(hl:l≠[]):u6 l=u6 m:=by
 have h1:=Ni (h.mem_iff.1 (QX hl))
 have h2:=Ni (h.mem_iff.2 (QX (fun e=>hl (by rw[e] at h;exact h.eq_nil))))
 omega
theorem HR:∀(l:List Int) (a:Int),a≤l.foldl max a∧∀x∈l,x≤l.foldl max a
 | [],a=>⟨Int.le_refl _,fun _ h=>(by cases h)⟩
 |y::l,a=>by
  obtain⟨h1,h2⟩:=HR l (max a y)
  refine⟨by simp only[List.foldl_cons];omega,fun x hx=>?_⟩
  rcases List.mem_cons.1 hx with rfl|hx
  ·simp only[List.foldl_cons];omega
  exact h2 x hx
theorem Bf:∀(l:List Int) (a:Int),l.foldl max a=a∨l.foldl max a∈l
 | [],_=> .inl rfl
 |y::l,a=>by
  simp only[List.foldl_cons]
  rcases Bf l (max a y) with h|h
  ·rw[h]
   rcases(by omega:max a y=a∨max a y=y) with e|e
   ·exact .inl e
   rw[e];exact .inr List.mem_cons_self
  exact .inr (List.mem_cons_of_mem _ h)
theorem Yp{l:List Int}(h:x∈l):x≤Ct l:=by
 cases l with
 |nil=>cases h
 |cons y l=>
  rcases List.mem_cons.1 h with rfl|h
  ·exact(HR l _).1
  exact(HR l _).2 x h
theorem QZ:∀ {l:List Int},l≠[]→Ct l∈l
 | [],h=>absurd rfl h
 |y::l,_=>by
  show l.foldl max y∈_
  rcases Bf l y with h|h
  ·rw[h];exact List.mem_cons_self
  exact List.mem_cons_of_mem _ h
theorem abk{l m:List Int}(h:l.Perm m)(hl:l≠[]):Ct l=Ct m:=by
 have h1:=Yp (h.mem_iff.1 (QZ hl))
 have h2:=Yp (h.mem_iff.2 (QZ (fun e=>hl (by rw[e] at h;exact h.eq_nil))))
 omega
theorem Nm{f:α→β}{l:List α}(h:l≠[]):l.map f≠[]:=fun e=>h (List.map_eq_nil_iff.1 e)
abbrev fsT:List bM:=[⟨2,1,true⟩,⟨0,1,true⟩]
theorem cC(h:0≤n∧n≤4):jz (aV n):=asb (fs:=[]) h (by decide) (by simp) .nil
theorem cV:eG (aV n):=asa (fs:=[]) (by decide) (by simp)
theorem cCT:jz (D5 2 fsT):=asb (by decide) (by decide) (by decide) (by decide)
theorem cVT:eG (D5 2 fsT):=asa (by decide) (by decide)
theorem rT:cF (aV 2)=4:=by kernel_rfl
theorem rL:u6 ((cY (aV 1) (aF (aV 1)) (fun _=>true) (cS (aV 1))).map F5)=2:=by kernel_rfl
theorem rLn:(cY (aV 1) (aF (aV 1)) (fun _=>true) (cS (aV 1))).length=0→False:=by
 have e:Nat.beq (cY (aV 1) (aF (aV 1)) (fun _=>true) (cS (aV 1))).length 0=false:=by kernel_rfl
 intro h;rw[h] at e;cases e
theorem r1n:(cY (aV 1) (aF (aV 1)) (cB (aV 1).gone (aV 1).new (aV 1).af) (cS (aV 1))).length=0→False:=by
 have e:Nat.beq (cY (aV 1) (aF (aV 1)) (cB (aV 1).gone (aV 1).new (aV 1).af) (cS (aV 1))).length 0=false:=by kernel_rfl
 intro h;rw[h] at e;cases e
theorem r2n:(cY (aV 2) (aF (aV 2)) (cB (aV 2).gone (aV 2).new (aV 2).af) (cS (aV 2))).length=0→False:=by
 have e:Nat.beq (cY (aV 2) (aF (aV 2)) (cB (aV 2).gone (aV 2).new (aV 2).af) (cS (aV 2))).length 0=false:=by kernel_rfl
 intro h;rw[h] at e;cases e
theorem rM1:u6 ((cY (aV 2) (aF (aV 2)) (cB (aV 2).gone (aV 2).new (aV 2).af) (cS (aV 2))).map fun x=>x.af)=0:=by kernel_rfl
theorem rM2:Ct ((cY (aV 2) (aF (aV 2)) (cB (aV 2).gone (aV 2).new (aV 2).af) (cS (aV 2))).map fun x=>x.af)=2:=by kernel_rfl
theorem rU:pn (aE (cY (aV 1) (aF (aV 1)) (cB (aV 1).gone (aV 1).new (aV 1).af) (cS (aV 1)))) (((cY (aV 1) (aF (aV 1)) (cB (aV 1).gone (aV 1).new (aV 1).af) (cS (aV 1))).length:Nat):Int) (aV 1).after.length (aV 1).before.length=[[0,0],[2,1]]:=by kernel_rfl
theorem rW:pY (D5 2 fsT) (cS (D5 2 fsT))=some 1:=by kernel_rfl
theorem rL1:iD 1 4=[0]:=by kernel_rfl
theorem rA:(WO (acD (aE (cY (aV 2) (aF (aV 2)) (cB (aV 2).gone (aV 2).new (aV 2).af) (cS (aV 2)))) (((cY (aV 2) (aF (aV 2)) (cB (aV 2).gone (aV 2).new (aV 2).af) (cS (aV 2))).length:Nat):Int) (aV 2).after.length (aV 2).before.length)).2.2=(2,0):=by kernel_rfl
theorem aaP(hK:fF ro l (aV 2)):BU zT 12 [.agg ⟨l⟩] ro [] (fun r Y=>r= .tuple ⟨[zI 4,zI 0]⟩∧Y=[]):=
 (Rf hK (cC (by decide)) cV).mono fun v X h=>⟨by rw[h.1,rT];rfl,h.2⟩
theorem aeO(hK:fF ro l (aV 1)):BU zT 48 [.agg ⟨l⟩] ro [] (fun r Y=>r= .tuple ⟨[zI 2,zI 0]⟩∧Y=[]):=
 (anJ hK (cC (by decide)) cV).mono fun v X ⟨zs,m,e,hz,hY,hr,h⟩=>by
  rcases h with ⟨h,_⟩| ⟨h,hm,he⟩
  ·exact(rLn (by rw[←hz.length_eq,h];rfl)).elim
  exact⟨by rw[hr,hm,he,KN (hz.map F5) (Nm h),rL],hY⟩
theorem amw(hK:fF ro l (aV 1)):BU zT 46 [.agg ⟨l⟩] ro [] (fun r Y=>∃v,r= .tuple ⟨[v,zI 0]⟩∧∀aD,Knows aD Y→LL aD v [[0,0],[2,1]]):=
 (avp hK cV (oA (cC (by decide))) (Aa hK (cC (by decide)) cV) SO).mono fun r X ⟨zs,v,e,hz,hr,h⟩=>by
  rcases h with ⟨h,_⟩| ⟨h,he,hl⟩
  ·exact(r1n (by rw[←hz.length_eq,h];rfl)).elim
  refine⟨v,by rw[hr,he],fun aD hk=>?_⟩
  have:=hl aD hk
  rwa[Bs hz,hz.length_eq,rU] at this
theorem aeN(hK:fF ro l (aV 2)):BU zT 47 [.agg ⟨l⟩] ro [] (fun r Y=>r= .tuple ⟨[.agg ⟨[zI 0,zI 2]⟩,zI 0]⟩∧Y=[]):=
 (avr hK cV (oA (cC (by decide))) (Aa hK (cC (by decide)) cV)).mono fun r X ⟨zs,a,b,e,hz,hY,hr,h⟩=>by
  rcases h with ⟨h,_⟩| ⟨h,ha,hb,he⟩
  ·exact(r2n (by rw[←hz.length_eq,h];rfl)).elim
  exact⟨by rw[hr,ha,hb,he,KN (hz.map _) (Nm h),abk (hz.map _) (Nm h),rM1,rM2],hY⟩
theorem at2(hK:fF ro l (aV 2)):BU zT 50 [.agg ⟨l⟩] ro [] (fun r Y=>∃a b,r= .tuple ⟨[zI a,zI b,zI 2,zI 0]⟩∧Y=[]):=
 (aOj hK cV (oA (cC (by decide))) (Aa hK (cC (by decide)) cV) SO).mono fun r X ⟨zs,a,b,w,e,hz,hY,hr,h⟩=>by
  rcases h with ⟨h,_⟩| ⟨h,ha⟩
  ·exact(r2n (by rw[←hz.length_eq,h];rfl)).elim
  rw[Bs hz,hz.length_eq] at ha
  have h2:=congrArg (fun x:Int×Int×Int×Int=>x.2.2) ha
  dsimp only at h2
  rw[rA] at h2
  cases h2
  exact⟨a,b,hr,hY⟩
theorem aeM(hK:fF ro l (D5 2 fsT)):dE zT 22 [.agg ⟨l⟩] ro [] (fun r Y=>∃v,r= .tuple ⟨[v,zI 0]⟩∧aw v 1 3 cm [0] Y):=
 Fn.mono (avb hK cVT (oA cCT) (Aa hK cCT cVT) (by decide)) fun en s' ⟨r,X,h1,h2,v,e,hr,h⟩=>⟨r,X,h1,h2,by
  rcases h with ⟨m,hm,ho,he⟩| ⟨hm,_⟩
  ·rw[rW] at hm;cases hm
   rw[rL1] at ho
   exact⟨v,by rw[hr,he],ho⟩
  rw[rW] at hm;cases hm⟩
theorem agq{v4 vf:Value}{fa:Option Addr}(h:fF ro [v0,v1,.slice fa 0 fc,v3,v4,v5,v6,v7,zI 1,zI 1,zI n,vb] (aV n))(hf:bC ro vf 3 m8 fs):fF ro [v0,v1,.slice fa 0 fc,v3,v4,v5,v6,v7,zI 1,zI 1,zI n,vf] (D5 n fs):=by
 obtain⟨w0,w1,w3,w4,w5,w6,w7,wb,ga,gc,hv,e,h1,h2,h3,h4,h5,h6,h7,_⟩:=h
 cases e
 exact⟨_,_,_,_,_,_,_,_,_,_,hv,rfl,h1,h2,h3,h4,h5,h6,h7,hf⟩
theorem PB{v4:Value}{fa fb:Option Addr}{fn fd:Nat}(h:∀v∈[v0,v1,v3,v4,v5,v6,v7,vb],single v=true):∀v∈[v0,v1,.slice fa 0 fc,v3,v4,v5,v6,v7,zI 1,zI 1,zI 2,.slice fb fn fd],single v=true:=by
 simp only[List.mem_cons,List.not_mem_nil,or_false] at h ⊢
 rintro v (rfl|rfl|rfl|rfl|rfl|rfl|rfl|rfl|rfl|rfl|rfl|rfl)<;>first|rfl|exact h _ (by simp)
theorem LL.up{aD:Nat→Option Obj}{v:Value}{W:List (List Int)}(h:LL ro v W)(hs:Sub ro aD):LL aD v W:=by
 obtain⟨ws,h1,h2⟩:=h
 exact⟨ws,h1.up hs,h2.imp fun _ _ k=>k.up hs⟩
theorem aHI(a b c d:Int):EqV zT 65 (.agg ⟨[zI a,zI b]⟩) (.agg ⟨[zI c,zI d]⟩) (a==c&&(b==d&&true)):=
 Oc (uw (dep:=9999) (ni Tryz.typeInfo65 Tryz.underlying65 rfl rfl rfl rfl rfl rfl) Tryz.stoodInHeld65 (.cons (by decide) (j5 mz rfl) (j5 mz rfl) (od mz _ _) (.cons (by decide) (j5 mz rfl) (j5 mz rfl) (od mz _ _) .nil)))
theorem aNZ:og zT 65:=by unfold og;kernel_rfl
theorem XP:BU zT 15 [] ro [] (fun r Y=>r= .bool true∧Y=[]):=by
 refine G3 ar [] [] aW fun fr=>zD 6<|jc (vs:=[zI 2]) [] (Mf) ?_
 rintro _ Y16 ⟨l16,rfl,aSl,EG⟩
 refine jf [0] Y16 (fun yS cg iK=>?_)
 have aSH:=aSl _ iK
 refine Tq (vs:=[(.agg ⟨l16⟩)]) [] (fun _ _ h=>h) (aaP aSH) ?_
 rintro _ _ ⟨rfl,rfl⟩
 refine jg 0 []<|zD 8<|jc (vs:=[zI 1]) [] (Mf) ?_
 rintro _ Y21 ⟨l21,rfl,aSk,aoK⟩
 refine jf [0] Y21 (fun ro6 ko Y3=>?_)
 have aoL:=aSk _ Y3
 refine Tq (vs:=[(.agg ⟨l21⟩)]) [] (fun _ _ h=>h) (amw aoL) ?_
 rintro _ Y22 ⟨v22,rfl,aQo⟩
 refine zD 5<|jf [0] Y22 (fun ro9 r5 hk8=>?_)
 have aSm:=aQo _ hk8
 refine zD 3<|jc (vs:=[zI 2]) [] (Mf) ?_
 rintro _ Y26 ⟨wx,rfl,aSj,EE⟩
 refine jf [0] Y26 (fun aZI Hf aQC=>?_)
 have aSG:=aSj _ aQC
 refine Tq (vs:=[(.agg ⟨wx⟩)]) [] (fun _ _ h=>h) (aeN aSG) ?_
 rintro _ _ ⟨rfl,rfl⟩
 refine jg 0 []<|zD 3<|jn fun b5=>jd 5 [0]<|jc (vs:=[zI 1]) [] (Mf) ?_
 rintro _ Y31 ⟨Ra,rfl,aSi,Sc⟩
 refine jf [0] Y31 (fun aZG aEM aon=>?_)
 have aSF:=aSi _ aon
 refine Tq (vs:=[(.agg ⟨Ra⟩)]) [] (fun _ _ h=>h) (aeO aSF) ?_
 rintro _ _ ⟨rfl,rfl⟩
 refine jg 0 []<|zD 8<|jc (vs:=[zI 2]) [] (Mf) ?_
 rintro _ Y36 ⟨l36,rfl,aSh,NS⟩
 refine jp (vs:=[zI 2,zI 1,.bool true]) [] [] (fun aG hs hZ=>aHY)<|jp (vs:=[zI 0,zI 1,.bool true]) [] [] (fun aG hs hZ=>aHY)<|jn fun b39=>jf [1,0] (Y36++[(b39,.cells ⟨[zI 2,zI 1,.bool true,zI 0,zI 1,.bool true]⟩ 58 (0,0))]) (fun aZE aEL abP=>?_)
 have aSD:=aSh _ (Knows.left abP)
 have aQT:=bU (sz:=3) (enc:=m8) (T:=58) [⟨2,1,true⟩,⟨0,1,true⟩] (Knows.right abP _ (.head _)) (fun _ _=>rfl)
 obtain⟨v0,v1,v3,v4,v5,v6,v7,vb,fa,fc,rfl,aPw⟩:=NS
 refine jp (vs:=[.agg ⟨[v0,v1,(.slice fa 0 fc),v3,v4,v5,v6,v7,zI 1,zI 1,zI 2,vb]⟩,(.slice (some ⟨b39,0,none⟩) 2 2)]) [] [] (fun aG hs hZ=>aHX (PB aPw))<|jc (vs:=[.agg ⟨[v0,v1,(.slice fa 0 fc),v3,v4,v5,v6,v7,zI 1,zI 1,zI 2,(.slice (some ⟨b39,0,none⟩) 2 2)]⟩]) [] (aeM (agq aSD aQT)) ?_
 rintro _ Y41 ⟨v41,rfl,aP0⟩
 refine zD 8<|jc (vs:=[zI 2]) [] (Mf) ?_
 rintro _ Y45 ⟨l45,rfl,aSg,aoJ⟩
 refine jf [0] Y45 (fun aZC aEK aQz=>?_)
 have aSC:=aSg _ aQz
 refine Tq (vs:=[(.agg ⟨l45⟩)]) [] (fun _ _ h=>h) (at2 aSC) ?_
 rintro _ _ ⟨qa,qb,rfl,rfl⟩
 refine jg 0 []<|jd 49 [1]<|jeq aNZ (aHI 0 2 0 2)<|zD 3<|jn fun b92=>jn fun b93=>jn fun b94=>jf [2,1,0] ((b92,.cells ⟨[zI 0,zI 0]⟩ 3 (0,0))::((b93,.cells ⟨[zI 2,zI 1]⟩ 3 (0,0))::[(b94,.cells ⟨[.slice (some ⟨b92,0,none⟩) 2 2,.slice (some ⟨b93,0,none⟩) 2 2]⟩ 22 (0,0))])) (fun aZB aEJ aw1=>?_)
 obtain⟨wsM,hsM,haM⟩:=aSm.up ((((Hf.trans aEM).trans aEL).trans aEK).trans aEJ)
 have aO2:=bU (sz:=1) (enc:=fK) (T:=22) [.slice (some ⟨b92,0,none⟩) 2 2,.slice (some ⟨b93,0,none⟩) 2 2] (aw1 _ (.tail _ (.tail _ (.head _)))) (fun _ _=>rfl)
 have aR8:=bU (sz:=1) (enc:=cm) (T:=3) [0,0] (aw1 _ (.head _)) (fun _ _=>rfl)
 have aR7:=bU (sz:=1) (enc:=cm) (T:=3) [2,1] (aw1 _ (.tail _ (.head _))) (fun _ _=>rfl)
 refine jp (vs:=[v22,(.slice (some ⟨b94,0,none⟩) 2 2)]) [] [] (fun aG hs hZ=>(show dr _ _ _ _ (.bool (EK [[0,0],[2,1]] [[0,0],[2,1]])) from ayH (hsM.up hs) (aO2.up hs) (haM.imp fun _ _ h=>h.up hs) (.cons (aR8.up hs) (.cons (aR7.up hs) .nil)) (by decide) (by decide) (by decide) (by decide)))<|zD 3<|jn fun b99=>jp (vs:=[v41,.slice (some ⟨b99,0,none⟩) 1 1]) [1,0] (Y41++[(b99,.cells ⟨([0].map cm).flatten⟩ 3 (0,0))]) (fun aG hs hZ=>(show dr _ _ _ _ (.bool (DX [0] [0])) from Zz (aP0.jW hZ.left) (bU [0] hZ.right.head (by intro p hp;rfl)) (by decide) (by decide))) ?_
 refine zD 4<|Tp qC.a.a.a.a.a.a.a.a (.bool true) [3] [] (((((((cg.trans ko).trans r5).trans Hf).trans aEM).trans aEL).trans aEK).trans aEJ) ⟨rfl,rfl⟩
theorem Zg{n:Nat}(hn:n≤4)(hi:i <n):hasB (IntKind.u8.wrap (dv .u8 1 (n:Int)-1)) i=true:=by
 have h:(n=1∧i=0)∨(n=2∧(i=0∨i=1))∨(n=3∧(i=0∨i=1∨i=2))∨(n=4∧(i=0∨i=1∨i=2∨i=3)):=by omega
 rcases h with ⟨rfl,rfl⟩| ⟨rfl,rfl|rfl⟩| ⟨rfl,rfl|rfl|rfl⟩| ⟨rfl,rfl|rfl|rfl|rfl⟩<;>rfl
def sM(a b:Int)(l:List bM):Bool:=l.any fun x=>(decide (x.a=a)&&decide (x.b=b))&& !x.same
def lL(p:Nat→Int)(l:List bM):Bool:=l.all fun x=> !x.same||decide (p x.a.toNat=x.b+1)
theorem XA{on:Int}{a b:Int}:∀ {l:List bM} {k:Nat},(∀j,j <l.length→hasB on ((k+j:Nat):Int)=true)→u1 on a b l k=sM a b l
 | [],_,_=>rfl
 |x::l,k,h=>by
  have h0:=h 0 (Nat.zero_lt_succ _)
  have ih:=XA (a:=a) (b:=b) (l:=l) (k:=k+1) fun j hj=>by
   have:=h (j+1) (Nat.succ_lt_succ hj)
   rwa[show k+1+j=k+(j+1) by omega]
  simp only[Nat.add_zero] at h0
  simp only[u1,h0,ih,sM,List.any_cons,Bool.true_and]
theorem J6{on:Int}{p:Nat→Int}:∀ {l:List bM} {k:Nat},(∀j,j <l.length→hasB on ((k+j:Nat):Int)=true)→jY on p l k=lL p l
 | [],_,_=>rfl
 |x::l,k,h=>by
  have h0:=h 0 (Nat.zero_lt_succ _)
  have ih:=J6 (p:=p) (l:=l) (k:=k+1) fun j hj=>by
   have:=h (j+1) (Nat.succ_lt_succ hj)
   rwa[show k+1+j=k+(j+1) by omega]
  simp only[Nat.add_zero] at h0
  simp only[jY,h0,ih,lL,List.all_cons,Bool.true_and]
  cases x.same<;>cases decide (p x.a.toNat=x.b+1)<;>simp
def fy(F:Nat→Nat→Bool)(R:(Nat→Int)→Bool)(na:Nat):Nat→Nat→(Nat→Int)→List (Nat→Int)
 |0,_,p=>bif R p then [p] else []
 |n+1,a,p=>fy F R na n (a+1) p++(List.range na).flatMap fun b=>bif !F a b||qn p a ((b:Int)+1) then [] else fy F R na n (a+1) (ig p a ((b:Int)+1))
def pJ(K:aB)(a b:Nat):Bool:=match K.before[a]?,K.after[b]? with
 |some x,some y=> !lf K x y&&(!nS K x y&& !sM a b K.facts)
 |_,_=>false
theorem ao6(h:K.facts.length≤4)(a b:Nat):dc K (aF K) a b=pJ K a b:=by
 have e:u1 (aF K) a b K.facts 0=sM a b K.facts:=XA fun j hj=>by
  rw[Nat.zero_add];exact Zg h hj
 simp only[dc,pJ,e]
 cases K.before[a]?<;>cases K.after[b]?<;>rfl
theorem mM(h:K.facts.length≤4):∀(n a:Nat) (p:Nat→Int),gA K (aF K) n a p=fy (pJ K) (fun p=>lL p K.facts) K.after.length n a p
 |0,a,p=>by
  have e:jY (aF K) p K.facts 0=lL p K.facts:=J6 fun j hj=>by
   rw[Nat.zero_add];exact Zg h hj
  simp only[gA,fy,e]
 |n+1,a,p=>by
  simp only[gA,fy,ao6 h,mM h n]
theorem Fp:∀ {l m:List Int},DX l m=true↔l=m
 | [],[]=>by simp[DX]
 | [],y::m=>by simp[DX]
 |x::l,[]=>by simp[DX]
 |x::l,y::m=>by simp[DX,Fp (l:=l) (m:=m)]
def CH(a:Nat):Nat→List Int→List Int
 |0,ys=>ys
 |j+1,ys=>if a <j+1∧kQ (ys.getD (j+1) 0) (ys.getD j 0) <0 then CH a j ((ys.set (j+1) (ys.getD j 0)).set j (ys.getD (j+1) 0)) else ys
def Ga(a:Nat):Nat→Nat→List Int→List Int
 |0,_,ys=>ys
 |n+1,i,ys=>Ga a n (i+1) (CH a i ys)
def yg(a b:Int)(xs:List Int):List Int:=Ga a.toNat (b.toNat-(a+1).toNat) (a+1).toNat xs
theorem abx{a:Int}(h0:0≤a)(h:¬j>a):CH a.toNat j.toNat ys=ys:=by
 cases hj:j.toNat with
 |zero=>rfl
 |succ k=>rw[CH,if_neg (fun e=>by omega)]
theorem aby{a:Int}(h0:0≤a)(hj:j>a)(hx:ys[j.toNat]?=some x) (hy:ys[(j-1).toNat]?=some y) (h:¬kQ x y <0):CH a.toNat j.toNat ys=ys:=by
 have e:j.toNat=(j-1).toNat+1:=by omega
 rw[e] at hx ⊢
 rw[CH,Sn hx,Sn hy,if_neg (fun k=>h k.2)]
theorem YG{a x' y':Int}(h0:0≤a)(hj:j>a)(hx:ys[j.toNat]?=some x) (hy:ys[(j-1).toNat]?=some y) (kV:ys[j.toNat]?=some x') (O2:ys[(j-1).toNat]?=some y') (h:kQ x y <0):CH a.toNat j.toNat ys=CH a.toNat (j-1).toNat ((ys.set j.toNat y').set (j-1).toNat x'):=by
 rw[hx] at kV;rw[hy] at O2;cases kV;cases O2
 have e:j.toNat=(j-1).toNat+1:=by omega
 rw[e] at hx ⊢
 rw[CH,Sn hx,Sn hy,if_pos ⟨by omega,h⟩]
theorem Ug{a b i:Int}(h:zs=Ga a.toNat (b.toNat-i.toNat) i.toNat ys)(hi:0≤i∧i <b):zs=Ga a.toNat (b.toNat-(i+1).toNat) (i+1).toNat (CH a.toNat i.toNat ys):=by
 rw[h,show b.toNat-i.toNat=(b.toNat-(i+1).toNat)+1 by omega,show (i+1).toNat=i.toNat+1 by omega];rfl
theorem aay{a b i:Int}(h:zs=Ga a.toNat (b.toNat-i.toNat) i.toNat ys)(hi:¬i <b)(h0:0≤i):ys=zs:=by
 rw[h,show b.toNat-i.toNat=0 by omega];rfl
def Z8(v:Value)(a b:Int)(xs:List Int)(Y:Cells):Prop:=∃ys,ys=yg a b xs∧ys.Perm xs∧aw v 1 105 uV ys Y
abbrev S0:List Int:=cb 16
abbrev S1:List Int:=[8,1,2,3,4,5,6,7,0,9,10,11,12,13,14,15]
abbrev S2:List Int:=[8,1,2,0,4,5,6,7,3,9,10,11,12,13,14,15]
abbrev S3:List Int:=[4,1,2,0,8,5,6,7,3,9,10,11,12,13,14,15]
theorem amm:yg 5 16 (yg 0 4 S3)=Az S0:=by kernel_rfl
theorem aqS{v:Value}{L:Cells}{a b:Int}(ho:aw v 1 105 uV xs L)(hN:xs.length≤100)(hM:∀m∈xs,0≤m∧m <16)(xG:0≤a∧a≤b∧b≤xs.length):dE zT 152 [v,zI a,zI b,.func (.func 90) ⟨[]⟩ ⟨[]⟩] ro L (fun r Y=>Z8 v a b xs Y):=by
 refine zC [.l L]<|zD 3<|ja (a+1) (by omega)<|zD 3<|dB [1,0,0] [] (fun(zz:Int×(List Int)×Cells)=>[(0,v),(1,zI a),(2,zI b),(3,.func (.func 90) ⟨[]⟩ ⟨[]⟩),(8,zI zz.1)]) (fun zz=>[.l zz.2.2]) (fun zz=>(a+1≤zz.1)∧aw v 1 105 uV zz.2.1 zz.2.2∧zz.2.1.Perm xs∧yg a b xs=Ga a.toNat (b.toNat-zz.1.toNat) zz.1.toNat zz.2.1) (fun zz=>(b-zz.1).toNat) (⟨(a+1),xs,L⟩) ⟨by dsimp only;omega,ho,.refl _,rfl⟩ [0] ?_
 rintro⟨i,ys,L⟩ hI K1 bF rest
 dsimp only at hI
 have Rn:=hI.2.2.1.length_eq
 have hym:∀m∈ys,0≤m∧m <16:=fun m hm=>hM m (hI.2.2.1.mem_iff.1 hm)
 refine zD 7<|zJ 14 (i <b) (fun h1=>?_) fun h1=>?_
 ·
  refine zD 10<|dB [1,0,0,1,0,0,1,0,0] [K1] (fun(zz:Int×(List Int)×Cells)=>[(0,v),(1,zI a),(2,zI b),(3,.func (.func 90) ⟨[]⟩ ⟨[]⟩),(8,zI i),(9,zI zz.1)]) (fun zz=>[.l zz.2.2]) (fun zz=>(a≤zz.1∧zz.1≤i)∧aw v 1 105 uV zz.2.1 zz.2.2∧zz.2.1.Perm xs∧yg a b xs=Ga a.toNat (b.toNat-(i+1).toNat) (i+1).toNat (CH a.toNat zz.1.toNat zz.2.1)) (fun zz=>(zz.1-a).toNat) (⟨i,ys,L⟩) ⟨by dsimp only;omega,hI.2.1,hI.2.2.1,Ug hI.2.2.2 (by omega)⟩ [0] ?_
  rintro⟨j,ys,L⟩ hJ K2 kL rest
  dsimp only at hJ
  have Rn:=hJ.2.2.1.length_eq
  have hym:∀m∈ys,0≤m∧m <16:=fun m hm=>hM m (hJ.2.2.1.mem_iff.1 hm)
  refine zD 7<|js 3 (decide (j>a)) (fun h2=>?_) (fun h2=>?_)
  ·
   have k7:=h2
   replace k7:=of_decide_eq_true k7
   refine zD 3 ?_
   obtain⟨xk,ju⟩:=zG ys (j.toNat) (by first|omega| (simp only[List.length_set];omega))
   refine mW j 1 hJ.2.1 ju (Int.toNat_of_nonneg (show 0≤j∧j <((ys).length:Int) from (by first|omega| (simp only[List.length_set];omega))).1).symm (fun nQ VP=>?_)
   refine kJ 0 [0] L (fun s _ hZ=>bn hJ.2.1 VP hZ ju)<|zD 2<|ja (j-1) (by omega) ?_
   obtain⟨ku,fO⟩:=zG ys ((j-1).toNat) (by first|omega| (simp only[List.length_set];omega))
   refine mW (j-1) 1 hJ.2.1 fO (Int.toNat_of_nonneg (show 0≤(j-1)∧(j-1) <((ys).length:Int) from (by first|omega| (simp only[List.length_set];omega))).1).symm (fun b30 NQ=>?_)
   refine kJ 0 [0] L (fun s _ hZ=>bn hJ.2.1 NQ hZ fO)<|aS 14 fun oh ov mZ=>jp (vs:=[.int .u8 xk,.int .u8 ku]) [] [] (fun aG hs hZ=>(Q4 (hym _ (zL ju)) (hym _ (zL fO))))<|eo mZ [0]<|zD 3<|zJ 34 ((kQ xk ku) <0) (fun h4=>?_) fun h4=>?_
   ·
    refine zD 9<|ja (j-1) (by omega)<|zD 2<|ja (j-1) (by omega) ?_
    obtain⟨tC,wB⟩:=zG ys ((j-1).toNat) (by first|omega| (simp only[List.length_set];omega))
    refine mW (j-1) 1 hJ.2.1 wB (Int.toNat_of_nonneg (show 0≤(j-1)∧(j-1) <((ys).length:Int) from (by first|omega| (simp only[List.length_set];omega))).1).symm (fun b45 VN=>?_)
    refine kJ 0 [0] L (fun s _ hZ=>bn hJ.2.1 VN hZ wB)<|zD 2 ?_
    obtain⟨Ee,wA⟩:=zG ys (j.toNat) (by first|omega| (simp only[List.length_set];omega))
    refine mW j 1 hJ.2.1 wA (Int.toNat_of_nonneg (show 0≤j∧j <((ys).length:Int) from (by first|omega| (simp only[List.length_set];omega))).1).symm (fun b49 VM=>?_)
    refine kJ 0 [0] L (fun s _ hZ=>bn hJ.2.1 VM hZ wA) ?_
    obtain⟨x51,y9⟩:=zG ys (j.toNat) (by first|omega| (simp only[List.length_set];omega))
    refine mW j 1 hJ.2.1 y9 (Int.toNat_of_nonneg (show 0≤j∧j <((ys).length:Int) from (by first|omega| (simp only[List.length_set];omega))).1).symm (fun b51 VL=>?_)
    refine aS 15 fun pX p6 oZ=>E8 0 0 [.int .u8 tC] tC hJ.2.1 VL y9 rfl rfl (Nat.le_of_ble_eq_true rfl) fun L6 Tx=>gx oZ [] ?_
    obtain⟨x52,sY⟩:=zG ((ys.set j.toNat tC)) ((j-1).toNat) (by first|omega| (simp only[List.length_set];omega))
    refine mW (j-1) 1 Tx sY (Int.toNat_of_nonneg (show 0≤(j-1)∧(j-1) <(((ys.set j.toNat tC)).length:Int) from (by first|omega| (simp only[List.length_set];omega))).1).symm (fun b52 VK=>?_)
    refine aS 17 fun yC yJ zm=>E8 0 0 [.int .u8 Ee] Ee Tx VK sY rfl rfl (Nat.le_of_ble_eq_true rfl) fun L9 NI=>fU zm<|zD 3<|ja (j-1) (by omega)<|zD 2<|bE kL (⟨(j-1),((ys.set j.toNat tC).set ((j-1).toNat) Ee),L9⟩) ⟨by dsimp only;omega,NI,(lZ wA wB).trans hJ.2.2.1,by dsimp only;rw[hJ.2.2.2,YG (by omega) (by omega) ju fO wA wB (by assumption)]⟩ (by dsimp only;omega) [0] (Sub.refl _)
   refine zD 4<|ja (i+1) (by omega)<|zD 2<|bE bF (⟨(i+1),ys,L⟩) ⟨by dsimp only;omega,hJ.2.1,hJ.2.2.1,by dsimp only;rw[hJ.2.2.2,aby (by omega) (by omega) ju fO (by assumption)]⟩ (by dsimp only;omega) [0] (Sub.refl _)
  have k7:=h2
  replace k7:=of_decide_eq_false k7
  refine zD 18<|ja (i+1) (by omega)<|zD 2<|bE bF (⟨(i+1),ys,L⟩) ⟨by dsimp only;omega,hJ.2.1,hJ.2.2.1,by dsimp only;rw[hJ.2.2.2,abx (by omega) (by omega)]⟩ (by dsimp only;omega) [0] (Sub.refl _)
 refine zD 2<|zR (.tuple ⟨[]⟩) [] [0] L ⟨ys,aay hI.2.2.2 (by omega) (by omega),hI.2.2.1,hI.2.1⟩
theorem Gf:∀m∈S0,0≤m∧m <16:=by decide
theorem aeA:∀x y,S0[(8:Int).toNat]?=some x→S0[(4:Int).toNat]?=some y→¬kQ x y <0:=fun x y hx hy=>by cases hx;cases hy;decide
theorem atO:∀x y,S0[(12:Int).toNat]?=some x→S0[(8:Int).toNat]?=some y→¬kQ x y <0:=fun x y hx hy=>by cases hx;cases hy;decide
theorem af8{v:Value}{a b:Int}(hf:bC ro v 1 uV xs)(hM:∀m∈xs,0≤m∧m <16)(hn:xs.length≤100)(xG:(0≤a∧a <xs.length)∧0≤b∧b <xs.length)(cI:∀x y,xs[b.toNat]?=some x→xs[a.toNat]?=some y→¬kQ x y <0):dr zT 221 [v,zI a,zI b,zP q,.func (.func 90) ⟨[]⟩ ⟨[]⟩] ro (.tuple ⟨[zI a,zI b]⟩):=by
 obtain⟨gX,v9,vZ,fT,rfl,AH,qL,qK⟩:=hf
 refine zE<|zD 11 ?_
 obtain⟨yd,Ju⟩:=zG xs (b.toNat)
 refine IU b fT 1 qL Ju (Int.toNat_of_nonneg (show 0≤b∧b <((xs).length:Int) from (by omega)).1).symm<|jl 0 (qK _ _ Ju)<|zD 2 ?_
 obtain⟨BW,rX⟩:=zG xs (a.toNat)
 refine IU a fT 1 qL rX (Int.toNat_of_nonneg (show 0≤a∧a <((xs).length:Int) from (by omega)).1).symm<|jl 0 (qK _ _ rX)<|aS 9 fun BV B3 An=>jp (vs:=[.int .u8 yd,.int .u8 BW]) [] [] (fun aG hs hZ=>(Q4 (hM _ (zL Ju)) (hM _ (zL rX))))<|eo An []<|zD 2<|zJ 22 ((kQ yd BW) <0) (fun h2=>?_) fun h2=>?_
 ·
  exfalso;exact cI _ _ Ju rX (by assumption)
 refine zD 10<|zX (.tuple ⟨[zI a,zI b]⟩) ⟨rfl,rfl⟩
theorem aN9{v:Value}(hf:bC ro v 1 uV S0):dr zT 196 [v,zI 4,zI 8,zI 12,zP q,.func (.func 90) ⟨[]⟩ ⟨[]⟩] ro (zI 8):=by
 obtain⟨gX,v9,vZ,fT,rfl,AH,qL,qK⟩:=hf
 refine zE<|zD 11<|jp (vs:=[.slice gX S0.length fT,zI 4,zI 8,zP q,.func (.func 90) ⟨[]⟩ ⟨[]⟩]) [] [] (fun aG hs hZ=>(af8 (a:=4) (b:=8) (q:=q) ((show bC _ _ _ _ _ from ⟨gX,v9,vZ,fT,rfl,AH,qL,qK⟩).up hs) Gf (by decide) (by decide) (aeA)))<|zD 13<|jp (vs:=[.slice gX S0.length fT,zI 8,zI 12,zP q,.func (.func 90) ⟨[]⟩ ⟨[]⟩]) [] [] (fun aG hs hZ=>(af8 (a:=8) (b:=12) (q:=q) ((show bC _ _ _ _ _ from ⟨gX,v9,vZ,fT,rfl,AH,qL,qK⟩).up hs) Gf (by decide) (by decide) (atO)))<|zD 13<|jp (vs:=[.slice gX S0.length fT,zI 4,zI 8,zP q,.func (.func 90) ⟨[]⟩ ⟨[]⟩]) [] [] (fun aG hs hZ=>(af8 (a:=4) (b:=8) (q:=q) ((show bC _ _ _ _ _ from ⟨gX,v9,vZ,fT,rfl,AH,qL,qK⟩).up hs) Gf (by decide) (by decide) (aeA)))<|zD 12<|zX (zI 8) ⟨rfl,rfl⟩
theorem aB5{i:Int}(hi:1≤i∧i≤4)(hx:S0[i.toNat]?=some x) (hy:S0[(i-1).toNat]?=some y) (h:¬kQ x y <0):i≤3:=by
 by_cases e:i=4
 ·subst e
  cases hx;cases hy
  exact absurd h (by decide)
 omega
theorem anm{v:Value}(hf:bC ro v 1 uV S0):dr zT 155 [v,zI 0,zI 16,.func (.func 90) ⟨[]⟩ ⟨[]⟩] ro (.tuple ⟨[zI 8,zI 1]⟩):=by
 obtain⟨gX,v9,vZ,fT,rfl,AH,qL,qK⟩:=hf
 refine zE<|zD 14<|jn fun OC=>zD 5<|je (zI 4) rfl<|zD 8<|je (zI 4) rfl<|zD 8<|je (zI 4) rfl<|zD 25<|jp (vs:=[.slice gX S0.length fT,zI 4,zI 8,zI 12,zP OC,.func (.func 90) ⟨[]⟩ ⟨[]⟩]) [] [] (fun aG hs hZ=>(aN9 (q:=OC) ((show bC _ _ _ _ _ from ⟨gX,v9,vZ,fT,rfl,AH,qL,qK⟩).up hs)))<|jd 20 [0]<|zX (.tuple ⟨[zI 8,zI 1]⟩) ⟨rfl,rfl⟩
theorem aDN{v:Value}(hf:bC ro v 1 uV S0):dr zT 157 [v,zI 0,zI 16,.func (.func 90) ⟨[]⟩ ⟨[]⟩] ro (.bool false):=by
 obtain⟨gX,v9,vZ,fT,rfl,AH,qL,qK⟩:=hf
 have He:S0.length=16:=rfl
 refine zE<|zD 16<|dB [1,1,0,1,0,0] [] (fun(zz:Nat)=>[(0,.slice gX S0.length fT),(1,zI 0),(2,zI 16),(3,.func (.func 90) ⟨[]⟩ ⟨[]⟩),(9,zI 1),(10,zI 0)]) (fun zz=>[]) (fun zz=>True) (fun zz=>zz) 0 trivial [] ?_
 rintro z hI K1 bF rest
 refine zD 12<|dB [1,1,0,1,0,0,1,0,0,0,0,0] [K1] (fun(zz:Int)=>[(0,.slice gX S0.length fT),(1,zI 0),(2,zI 16),(3,.func (.func 90) ⟨[]⟩ ⟨[]⟩),(9,zI zz),(10,zI 0)]) (fun zz=>[]) (fun zz=>1≤zz∧zz≤4) (fun zz=>(5-zz).toNat) 1 ⟨by omega,by omega⟩ [] ?_
 rintro i hI K2 kL rest
 refine zD 7<|js 3 (decide (i <16)) (fun h1=>?_) (fun h1=>?_)
 ·
  have fp:=h1
  replace fp:=of_decide_eq_true fp
  refine zD 3 ?_
  obtain⟨Mn,A2⟩:=zG S0 (i.toNat)
  refine IU i fT 1 qL A2 (Int.toNat_of_nonneg (show 0≤i∧i <((S0).length:Int) from (by omega)).1).symm<|jl 0 (qK _ _ A2)<|zD 2<|ja (i-1) (by omega) ?_
  obtain⟨x31,NC⟩:=zG S0 ((i-1).toNat)
  refine IU (i-1) fT 1 qL NC (Int.toNat_of_nonneg (show 0≤(i-1)∧(i-1) <((S0).length:Int) from (by omega)).1).symm<|jl 0 (qK _ _ NC)<|aS 14 fun oh ov mZ=>jp (vs:=[.int .u8 Mn,.int .u8 x31]) [] [] (fun aG hs hZ=>(Q4 (Gf _ (zL A2)) (Gf _ (zL NC))))<|eo mZ []<|zD 4<|js 36 (!(decide ((kQ Mn x31) <0))) (fun h3=>?_) (fun h3=>?_)
  ·
   try simp only[zB] at h3
   refine zD 5<|ja (i+1) (by omega)<|zD 2<|bE kL (i+1) ⟨by omega,by have:=aB5 hI A2 NC (by assumption);omega⟩ (by omega) [] (Sub.refl _)
  try simp only[zB] at h3
  refine zD 9<|zJ 41 (i=16) (fun h4=>?_) fun h4=>?_
  ·
   exfalso;omega
  refine zD 16<|zX (.bool false) ⟨rfl,rfl⟩
 have fp:=h1
 replace fp:=of_decide_eq_false fp
 exfalso;omega
theorem Mg{l:List Int}(hx:l[i]?=some x) (h:l[i]?=some y):x=y:=Option.some.inj (hx.symm.trans h)
theorem MB:∀m∈S1,0≤m∧m <16:=by decide
theorem MA:∀m∈S2,0≤m∧m <16:=by decide
theorem atJ:∀m∈S3,0≤m∧m <16:=by decide
theorem aB3{i:Int}(hi:1≤i∧i≤3)(hx:S1[i.toNat]?=some x) (hy:S1[(0:Int).toNat]?=some y) (h:kQ x y <0):i≤2:=by
 by_cases e:i=3
 ·subst e;cases hx;cases hy;exact absurd h (by decide)
 omega
theorem atM{i:Int}(hi:1≤i∧i≤3)(hx:S1[i.toNat]?=some x) (hy:S1[(0:Int).toNat]?=some y) (h:¬kQ x y <0):i=3:=by
 rcases(by omega:i=1∨i=2∨i=3) with e|e|e
 ·subst e;cases hx;cases hy;exact absurd (show kQ 1 8 <0 by decide) h
 ·subst e;cases hx;cases hy;exact absurd (show kQ 2 8 <0 by decide) h
 exact e
theorem aB4(hj:8≤j∧j≤15)(hx:S1[j.toNat]?=some x) (hy:S1[(0:Int).toNat]?=some y) (h:¬kQ x y <0):9≤j:=by
 by_cases e:j=8
 ·subst e;cases hx;cases hy;exact absurd (show kQ 0 8 <0 by decide) h
 omega
theorem atN(hj:8≤j∧j≤15)(hx:S1[j.toNat]?=some x) (hy:S1[(0:Int).toNat]?=some y) (h:kQ x y <0):j=8:=by
 rcases(by omega:j=8∨j=9∨j=10∨j=11∨j=12∨j=13∨j=14∨j=15) with e|e|e|e|e|e|e|e
 ·exact e
 all_goals (subst e;cases hx;cases hy;exact absurd h (by decide))
theorem aB2{i:Int}(hi:4≤i∧i≤5)(hx:S2[i.toNat]?=some x) (hy:S2[(0:Int).toNat]?=some y) (h:kQ x y <0):i=4:=by
 by_cases e:i=5
 ·subst e;cases hx;cases hy;exact absurd h (by decide)
 omega
theorem atK{i:Int}(hi:4≤i∧i≤5)(hx:S2[i.toNat]?=some x) (hy:S2[(0:Int).toNat]?=some y) (h:¬kQ x y <0):i=5:=by
 by_cases e:i=4
 ·subst e;cases hx;cases hy;exact absurd (show kQ 4 8 <0 by decide) h
 omega
theorem atL(hj:5≤j∧j≤7)(hx:S2[j.toNat]?=some x) (hy:S2[(0:Int).toNat]?=some y) (h:kQ x y <0):False:=by
 rcases(by omega:j=5∨j=6∨j=7) with e|e|e<;>(subst e;cases hx;cases hy;exact absurd h (by decide))
theorem aN7{v:Value}{L:Cells}(ho:aw v 1 105 uV S0 L):dE zT 159 [v,zI 0,zI 16,zI 8,.func (.func 90) ⟨[]⟩ ⟨[]⟩] ro L (fun r Y=>r= .tuple ⟨[zI 4,.bool false]⟩∧aw v 1 105 uV S3 Y):=by
 have He:S0.length=16:=rfl
 have bb4:S1.length=16:=rfl
 have bb3:S2.length=16:=rfl
 refine zC [.l L]<|zD 6<|Es [1,1] [] (fun(zz:Cells)=>[(0,v),(1,zI 0),(2,zI 16),(4,.func (.func 90) ⟨[]⟩ ⟨[]⟩),(10,zI 0),(11,.bool false)]) (fun zz=>[.l zz]) (fun zz=>aw v 1 105 uV S1 zz) ?_ (fun K1 bF=>?_)
 ·
  rintro L1_ HH rest
  refine zD 11<|dB [1,1,1,0,0,0] [] (fun(zz:Int)=>[(0,v),(1,zI 0),(4,.func (.func 90) ⟨[]⟩ ⟨[]⟩),(10,zI 0),(11,.bool false),(12,zI zz),(13,zI 15)]) (fun zz=>[.l L1_]) (fun zz=>1≤zz∧zz≤3) (fun zz=>(4-zz).toNat) 1 ⟨by omega,by omega⟩ [0] ?_
  rintro i hI K2 kL rest
  refine zD 7<|js 3 (decide (i≤15)) (fun h1=>?_) (fun h1=>?_)
  ·
   have fp:=h1
   replace fp:=of_decide_eq_true fp
   refine zD 3 ?_
   obtain⟨BK,oF⟩:=zG S1 (i.toNat)
   refine mW i 1 HH oF (Int.toNat_of_nonneg (show 0≤i∧i <((S1).length:Int) from (by omega)).1).symm fun b39 axK=>kJ 0 [0] L1_ (fun s _ hZ=>bn HH axK hZ oF)<|zD 2 ?_
   obtain⟨x43,Nz⟩:=zG S1 0
   refine A0 1 HH Nz fun b43 axJ=>kJ 0 [0] L1_ (fun s _ hZ=>bn HH axJ hZ Nz)<|aS 13 fun oh ov mZ=>jp (vs:=[.int .u8 BK,.int .u8 x43]) [] [] (fun aG hs hZ=>(Q4 (MB _ (zL oF)) (MB _ (zL Nz))))<|eo mZ [0]<|zD 3<|zJ 47 ((kQ BK x43) <0) (fun h3=>?_) fun h3=>?_
   ·
    refine zD 5<|ja (i+1) (by omega)<|zD 2<|bE kL (i+1) ⟨by omega,by have:=aB3 hI oF Nz (by assumption);omega⟩ (by omega) [0] (Sub.refl _)
   have hi3:=atM hI oF Nz (by assumption)
   refine zD 4<|dB [1,1,1,1,0,0,0] [] (fun(zz:Int)=>[(0,v),(1,zI 0),(4,.func (.func 90) ⟨[]⟩ ⟨[]⟩),(10,zI 0),(11,.bool false),(12,zI i),(13,zI zz)]) (fun zz=>[.l L1_]) (fun zz=>8≤zz∧zz≤15) (fun zz=>zz.toNat) 15 ⟨by omega,by omega⟩ [0] ?_
   rintro j hJ K4 hK4 rest
   refine zD 7<|js 3 (decide (i≤j)) (fun h4=>?_) (fun h4=>?_)
   ·
    have uR:=h4
    replace uR:=of_decide_eq_true uR
    refine zD 3 ?_
    obtain⟨x57,qS⟩:=zG S1 (j.toNat)
    refine mW j 1 HH qS (Int.toNat_of_nonneg (show 0≤j∧j <((S1).length:Int) from (by omega)).1).symm fun b57 axI=>kJ 0 [0] L1_ (fun s _ hZ=>bn HH axI hZ qS)<|zD 2 ?_
    obtain⟨x61,abD⟩:=zG S1 0
    refine A0 1 HH abD fun b61 aRO=>kJ 0 [0] L1_ (fun s _ hZ=>bn HH aRO hZ abD)<|aS 13 fun yC yJ zm=>jp (vs:=[.int .u8 x57,.int .u8 x61]) [] [] (fun aG hs hZ=>(Q4 (MB _ (zL qS)) (MB _ (zL abD))))<|eo zm [0]<|zD 4<|js 66 (!(decide ((kQ x57 x61) <0))) (fun h6=>?_) (fun h6=>?_)
    ·
     try simp only[zB] at h6
     refine zD 5<|ja (j-1) (by omega)<|zD 2<|bE hK4 (j-1) ⟨by have:=aB4 hJ qS abD (by assumption);omega,by omega⟩ (by omega) [0] (Sub.refl _)
    try simp only[zB] at h6
    have hj8:=atN hJ qS abD (by assumption)
    refine zD 4 ?_
    subst hi3
    subst hj8
    refine zD 8<|Es [1,1,1,1,1,1,1] [] (fun(zz:Cells)=>[(0,v),(1,zI 0),(4,.func (.func 90) ⟨[]⟩ ⟨[]⟩),(10,zI 0),(11,.bool false),(12,zI 3),(13,zI 8)]) (fun zz=>[.l zz]) (fun zz=>aw v 1 105 uV S2 zz) ?_ (fun K6 hK6=>?_)
    ·
     rintro L2_ Zj rest
     refine zD 14<|dB [1,1,1,1,1,1,1,1,1,0,0,0] [] (fun(zz:Nat)=>[(0,v),(1,zI 0),(4,.func (.func 90) ⟨[]⟩ ⟨[]⟩),(10,zI 0),(11,.bool false),(12,zI 4),(13,zI 7)]) (fun zz=>[.l L2_]) (fun zz=>True) (fun zz=>zz) 0 trivial [0] ?_
     rintro z _ K7 hK7 rest
     refine zD 3<|dB [1,1,1,1,1,1,1,1,1,0,0,0,0,0,0,0] [K7] (fun(zz:Int)=>[(0,v),(1,zI 0),(4,.func (.func 90) ⟨[]⟩ ⟨[]⟩),(10,zI 0),(11,.bool false),(12,zI zz),(13,zI 7)]) (fun zz=>[.l L2_]) (fun zz=>4≤zz∧zz≤5) (fun zz=>(6-zz).toNat) 4 ⟨by omega,by omega⟩ [0] ?_
     rintro i hI K8 hK8 rest
     refine zD 7<|js 3 (decide (i≤7)) (fun h7=>?_) (fun h7=>?_)
     ·
      have h7g:=h7
      replace h7g:=of_decide_eq_true h7g
      refine zD 3 ?_
      obtain⟨aAN,Rq⟩:=zG S2 (i.toNat)
      refine mW i 1 Zj Rq (Int.toNat_of_nonneg (show 0≤i∧i <((S2).length:Int) from (by omega)).1).symm fun beB aGB=>kJ 0 [0] L2_ (fun s _ hZ=>bn Zj aGB hZ Rq)<|zD 2 ?_
      obtain⟨aAM,Rp⟩:=zG S2 0
      refine A0 1 Zj Rp fun beA aGA=>kJ 0 [0] L2_ (fun s _ hZ=>bn Zj aGA hZ Rp)<|aS 13 fun TO T5 Sa=>jp (vs:=[.int .u8 aAN,.int .u8 aAM]) [] [] (fun aG hs hZ=>(Q4 (MA _ (zL Rq)) (MA _ (zL Rp))))<|eo Sa [0]<|zD 3<|zJ 120 ((kQ aAN aAM) <0) (fun h9=>?_) fun h9=>?_
      ·
       refine zD 5<|ja (i+1) (by omega)<|zD 2<|bE hK8 (i+1) ⟨by omega,by have:=aB2 hI Rq Rp (by assumption);omega⟩ (by omega) [0] (Sub.refl _)
      have hi5:=atK hI Rq Rp (by assumption)
      refine zD 4<|dB [1,1,1,1,1,1,1,1,1,0,0,0,0,1,0,0,0] [K7] (fun(zz:Int)=>[(0,v),(1,zI 0),(4,.func (.func 90) ⟨[]⟩ ⟨[]⟩),(10,zI 0),(11,.bool false),(12,zI i),(13,zI zz)]) (fun zz=>[.l L2_]) (fun zz=>4≤zz∧zz≤7) (fun zz=>zz.toNat) 7 ⟨by omega,by omega⟩ [0] ?_
      rintro j hJ K10 aoN rest
      refine zD 7<|js 3 (decide (i≤j)) (fun EH=>?_) (fun EH=>?_)
      ·
       have HM:=EH
       replace HM:=of_decide_eq_true HM
       refine zD 3 ?_
       obtain⟨aAL,YK⟩:=zG S2 (j.toNat)
       refine mW j 1 Zj YK (Int.toNat_of_nonneg (show 0≤j∧j <((S2).length:Int) from (by omega)).1).symm fun bev aGu=>kJ 0 [0] L2_ (fun s _ hZ=>bn Zj aGu hZ YK)<|zD 2 ?_
       obtain⟨aAK,YJ⟩:=zG S2 0
       refine A0 1 Zj YJ fun ay4 aGt=>kJ 0 [0] L2_ (fun s _ hZ=>bn Zj aGt hZ YJ)<|aS 13 fun Fw FX zn=>jp (vs:=[.int .u8 aAL,.int .u8 aAK]) [] [] (fun aG hs hZ=>(Q4 (MA _ (zL YK)) (MA _ (zL YJ))))<|eo zn [0]<|zD 4<|js 139 (!(decide ((kQ aAL aAK) <0))) (fun zp=>?_) (fun zp=>?_)
       ·
        try simp only[zB] at zp
        refine zD 5<|ja (j-1) (by omega)<|zD 2<|bE aoN (j-1) ⟨by omega,by omega⟩ (by omega) [0] (Sub.refl _)
       try simp only[zB] at zp
       exfalso;exact atL (by omega) YK YJ (by assumption)
      have HM:=EH
      replace HM:=of_decide_eq_false HM
      have hj4:j=4:=by omega
      refine zD 18 ?_
      subst hj4
      refine zD 5<|zJ 144 (i>4) (fun uU=>?_) fun uU=>?_
      ·
       refine zD 3<|Es [1,1,1,1,1,1,1,1,1,1,1] [] (fun(zz:Cells)=>[(0,v),(10,zI 0),(11,.bool false),(13,zI 4)]) (fun zz=>[.l zz]) (fun zz=>aw v 1 105 uV S3 zz) ?_ (fun K12 aoM=>?_)
       ·
        rintro L3_ hE3 rest
        refine zD 7<|zR (.tuple ⟨[zI 4,.bool false]⟩) [] [0] L3_ ⟨rfl,hE3⟩
       refine zD 7 ?_
       obtain⟨adw,YI⟩:=zG S2 0
       refine A0 1 Zj YI fun bes aGq=>kJ 0 [0] L2_ (fun s _ hZ=>bn Zj aGq hZ YI)<|zD 2 ?_
       obtain⟨asN,ag4⟩:=zG S2 4
       refine A0 1 Zj ag4 fun bep aGo=>kJ 0 [0] L2_ (fun s _ hZ=>bn Zj aGo hZ ag4) ?_
       obtain⟨aYJ,ag3⟩:=zG S2 4
       refine A0 1 Zj ag3 fun beo aGn=>aS 13 fun ap3 aqp NW=>E8 0 0 [.int .u8 adw] adw Zj aGn ag3 rfl rfl (Nat.le_of_ble_eq_true rfl) fun L15 aod=>gx NW [] ?_
       obtain⟨aYI,arb⟩:=zG ((S2.set 4 adw)) 0 (by first|omega| (simp only[List.length_set,zM];omega))
       refine A0 1 aod arb fun ben aGm=>aS 15 fun aAB aBA ax6=>E8 0 0 [.int .u8 asN] asN aod aGm arb rfl rfl (Nat.le_of_ble_eq_true rfl) fun L18 aoc=>fU ax6<|zD 1<|bE aoM L18 (by obtain rfl:adw=8:=Mg YI rfl;obtain rfl:asN=4:=Mg ag4 rfl;exact aoc) Nat.zero_lt_one [0] (Sub.refl _)
      exfalso;omega
     have h7g:=h7
     replace h7g:=of_decide_eq_false h7g
     exfalso;omega
    refine zD 7 ?_
    obtain⟨x93,avQ⟩:=zG S1 8
    refine A0 1 HH avQ fun b93 aRG=>kJ 0 [0] L1_ (fun s _ hZ=>bn HH aRG hZ avQ)<|zD 2 ?_
    obtain⟨x97,avO⟩:=zG S1 3
    refine A0 1 HH avO fun b97 aRE=>kJ 0 [0] L1_ (fun s _ hZ=>bn HH aRE hZ avO) ?_
    obtain⟨x99,abA⟩:=zG S1 3
    refine A0 1 HH abA fun b99 axF=>aS 13 fun aAA aBz V2=>E8 0 0 [.int .u8 x93] x93 HH axF abA rfl rfl (Nat.le_of_ble_eq_true rfl) fun L21 aob=>gx V2 [] ?_
    obtain⟨aYM,ard⟩:=zG ((S1.set 3 x93)) 8 (by first|omega| (simp only[List.length_set,zM];omega))
    refine A0 1 aob ard fun ay5 aGC=>aS 15 fun ap2 aqo EG=>E8 0 0 [.int .u8 x97] x97 aob aGC ard rfl rfl (Nat.le_of_ble_eq_true rfl) fun L24 aP3=>fU EG<|zD 1<|bE hK6 L24 (by obtain rfl:x93=0:=Mg avQ rfl;obtain rfl:x97=3:=Mg avO rfl;exact aP3) Nat.zero_lt_one [0] (Sub.refl _)
   have uR:=h4
   replace uR:=of_decide_eq_false uR
   exfalso;omega
  have fp:=h1
  replace fp:=of_decide_eq_false fp
  exfalso;omega
 refine zD 7 ?_
 obtain⟨TQ,CL⟩:=zG S0 8
 refine A0 1 ho CL fun b20 aR2=>kJ 0 [0] L (fun s _ hZ=>bn ho aR2 hZ CL)<|zD 2 ?_
 obtain⟨x24,avU⟩:=zG S0 0
 refine A0 1 ho avU fun Fs aR0=>kJ 0 [0] L (fun s _ hZ=>bn ho aR0 hZ avU) ?_
 obtain⟨Mn,A2⟩:=zG S0 0
 refine A0 1 ho A2 fun b26 aRZ=>aS 13 fun Xc Xm C2=>E8 0 0 [.int .u8 TQ] TQ ho aRZ A2 rfl rfl (Nat.le_of_ble_eq_true rfl) fun L27 ahL=>gx C2 [] ?_
 obtain⟨x27,CJ⟩:=zG ((S0.set 0 TQ)) 8 (by first|omega| (simp only[List.length_set,zM];omega))
 refine A0 1 ahL CJ fun b27 axM=>aS 15 fun adp aeb NU=>E8 0 0 [.int .u8 x24] x24 ahL axM CJ rfl rfl (Nat.le_of_ble_eq_true rfl) fun L30 awt=>fU NU<|zD 1<|bE bF L30 (by obtain rfl:TQ=8:=Mg CL rfl;obtain rfl:x24=0:=Mg avU rfl;exact awt) Nat.zero_lt_one [0] (Sub.refl _)
theorem atH:(yg 0 4 S3).length=16:=by kernel_rfl
theorem atI:((yg 0 4 S3).all fun m=>decide (0≤m∧m <16))=true:=by kernel_rfl
theorem atG:∀m∈yg 0 4 S3,0≤m∧m <16:=fun m hm=>of_decide_eq_true (List.all_eq_true.1 atI m hm)
theorem aDM{v:Value}{L:Cells}{a b IS:Int}(ho:aw v 1 105 uV xs L)(hN:xs.length≤100)(hM:∀m∈xs,0≤m∧m <16)(xG:0≤a∧a≤b∧b≤xs.length)(zp:b-a≤12):dE zT 113 [v,zI a,zI b,zI IS,.func (.func 90) ⟨[]⟩ ⟨[]⟩] ro L (fun r Y=>Z8 v a b xs Y):=by
 refine zC [.l L]<|zD 9<|dB [1,1,0,0] [] (fun(zz:Nat)=>[(0,v),(1,zI a),(2,zI b),(3,zI IS),(4,.func (.func 90) ⟨[]⟩ ⟨[]⟩),(10,.bool true),(11,.bool true)]) (fun zz=>[.l L]) (fun zz=>True) (fun zz=>zz) 0 trivial [0] ?_
 rintro z hI K1 bF rest
 refine zD 5<|ja (b-a) (by omega)<|zD 8<|zJ 25 ((b-a)≤12) (fun h1=>?_) fun h1=>?_
 ·
  refine zD 7<|jc (vs:=[v,zI a,zI b,.func (.func 90) ⟨[]⟩ ⟨[]⟩]) [0] (aqS ho hN hM xG) ?_
  rintro amn Y30 ⟨asH,Vu,aEX,uj⟩
  refine zD 2<|zR (.tuple ⟨[]⟩) [] [0] Y30 ⟨_,Vu,aEX,uj⟩
 exfalso;omega
theorem au0{v:Value}{L:Cells}{IS:Int}(ho:aw v 1 105 uV S0 L)(hl:1≤IS):dE zT 113 [v,zI 0,zI 16,zI IS,.func (.func 90) ⟨[]⟩ ⟨[]⟩] ro L (fun r Y=>BE v S0 Y):=by
 refine zC [.l L]<|zD 9<|dB [1,1,0,0] [] (fun(zz:Int×(List Int)×Bool×Cells)=>[(0,v),(1,zI zz.1),(2,zI 16),(3,zI IS),(4,.func (.func 90) ⟨[]⟩ ⟨[]⟩),(10,.bool true),(11,.bool zz.2.2.1)]) (fun zz=>[.l zz.2.2.2]) (fun zz=>aw v 1 105 uV zz.2.1 zz.2.2.2∧((zz.1=0∧zz.2.1=S0∧zz.2.2.1=true)∨(zz.1=5∧zz.2.1=yg 0 4 S3))) (fun zz=>(16-zz.1).toNat) (⟨0,S0,true,L⟩) ⟨ho,.inl ⟨rfl,rfl,rfl⟩⟩ [0] ?_
 rintro⟨a,ys,w,L⟩ hI K1 bF rest
 dsimp only at hI
 have ha:a=0∨a=5:=by rcases hI.2 with h|h<;>omega
 refine zD 5<|ja (16-a) (by omega)<|zD 8<|zJ 25 ((16-a)≤12) (fun h1=>?_) fun h1=>?_
 ·
  obtain⟨ha5,hys⟩:a=5∧ys=yg 0 4 S3:=by rcases hI.2 with h|h;exfalso;omega;exact h
  have Rn:ys.length=16:=by rw[hys];exact atH
  have hym:∀m∈ys,0≤m∧m <16:=by rw[hys];exact atG
  refine zD 7<|jc (vs:=[v,zI a,zI 16,.func (.func 90) ⟨[]⟩ ⟨[]⟩]) [0] (aqS hI.1 (by omega) hym (by omega)) ?_
  rintro amn Y30 ⟨asH,Vu,aEX,uj⟩
  refine zD 2<|zR (.tuple ⟨[]⟩) [] [0] Y30 ⟨_,by rw[Vu,ha5,hys];exact amm,uj⟩
 refine zD 4 ?_
 obtain⟨rfl,rfl,rfl⟩:a=0∧ys=S0∧w=true:=by rcases hI.2 with h|h;exact h;exfalso;omega
 refine zD 4<|zJ 32 (IS=0) (fun h2=>?_) fun h2=>?_
 ·
  exfalso;omega
 refine zD 16<|jp (vs:=[v,zI 0,zI 16,.func (.func 90) ⟨[]⟩ ⟨[]⟩]) [0] L (fun aG hs hZ=>(anm (hI.1.jW hZ)))<|zD 33<|jp (vs:=[v,zI 0,zI 16,.func (.func 90) ⟨[]⟩ ⟨[]⟩]) [0] L (fun aG hs hZ=>(aDN (hI.1.jW hZ)))<|zD 33<|jc (vs:=[v,zI 0,zI 16,zI 8,.func (.func 90) ⟨[]⟩ ⟨[]⟩]) [0] (aN7 hI.1) ?_
 rintro _ LP ⟨rfl,hoP⟩
 refine zD 25<|je (zI 2) rfl<|zD 23<|jc (vs:=[v,zI 0,zI 4,zI IS,.func (.func 90) ⟨[]⟩ ⟨[]⟩]) [0] (aDM (a:=0) (b:=4) (IS:=IS) hoP (by decide) atJ (by decide) (by decide)) ?_
 rintro aVQ aUi ⟨aAE,aE4,aXa,aFg⟩
 refine zD 6<|bE bF (⟨5,aAE,false,aUi⟩) ⟨aFg,.inr ⟨rfl,aE4⟩⟩ (by dsimp only;decide) [0] (Sub.refl _)
theorem akw(h:K.facts.length=4):IntKind.u8.wrap (aF K+1)=((2^K.facts.length:Nat):Int):=by
 unfold aF
 rw[h]
 decide
theorem ab4:dr zT 161 [zU ((16:Nat):Int)] ro (zI 5):=by refine bw ar [] [] aW (zD 35 (ja 5 (by decide) (zD 3 ?_)));exact aL q0 (zI 5) [] [] [] (Sub.refl _) ⟨_,_,rfl,rfl,rfl,rfl⟩
theorem ays:dr zT 114 [zU ((16:Nat):Int)] ro (zI 5):=by
 refine zE<|zD 10<|jp (vs:=[zU ((16:Nat):Int)]) [] [] (fun aG hs hZ=>ab4)<|zD 3<|zX (zI 5) ⟨rfl,rfl⟩
theorem anl{v:Value}{L:Cells}(ho:aw v 1 105 uV S0 L):dE zT 89 [v,.func (.func 90) ⟨[]⟩ ⟨[]⟩] ro L (fun r Y=>BE v S0 Y):=by
 have He:S0.length=16:=rfl
 refine zC [.l L]<|zD 3<|CG ho<|zD 6<|je (zU ((16:Nat):Int)) (Xf (n:=16) (by omega))<|jp (vs:=[zU ((16:Nat):Int)]) [] [] (fun aG hs hZ=>ays)<|zD 1<|jc (vs:=[v,zI 0,zI (S0.length:Int),zI 5,.func (.func 90) ⟨[]⟩ ⟨[]⟩]) [0] (au0 ho (by decide)) ?_
 rintro atP Y13 ⟨aAF,RA,NH⟩
 refine zD 1<|zR (.tuple ⟨[]⟩) [] [0] Y13 ⟨_,RA,NH⟩
theorem ayA{rows:List bG}(hF:nY ro f K rows)(hV:eG K)(hn4:K.facts.length=4):dE zT 61 [zP f] ro [] (fun r Y=>∃L,aw r 1 105 uV (fq K.facts.length) L∧Y=L):=by
 have hp8:2^K.facts.length=16:=by rw[hn4]
 refine zE<|zD 12<|jp (vs:=[zP f]) [] [] (fun aG hs hZ=>yj hV (hF.up hs))<|je (.int .u8 ((2^K.facts.length:Nat):Int)) (congrArg (Value.int .u8) (akw hn4))<|zD 3<|n8<|dB [1,1,0,1,0,0] [] (fun(zz:Nat×Value×Cells)=>[(2,zS),(3,zz.2.1),(7,.int .u8 ((2^K.facts.length:Nat):Int)),(8,.int .u8 (zz.1:Int))]) (fun zz=>[.l zz.2.2]) (fun zz=>zz.1≤2^K.facts.length∧aw zz.2.1 1 105 uV (cb zz.1) zz.2.2) (fun zz=>2^K.facts.length-zz.1) (⟨0,zS,[]⟩) ⟨Nat.zero_le _,aw.nil _ _ _⟩ [0] ?_
 rintro⟨k,v,L⟩ hI K1 bF rest
 dsimp only at hI
 have hrl:=fZ k
 refine zD 5<|zJ 9 ((k:Int) <((2^K.facts.length:Nat):Int)) (fun h1=>?_) fun h1=>?_
 ·
  refine zD 12<|jn fun vy=>iE (sz:=1) (ps:=(cb k)) (qs:=[(k:Int)]) (enc:=uV) (w:= .slice (some ⟨vy,0,none⟩) 1 1) [1] [0] [(vy,.cells ⟨([(k:Int)].map uV).flatten⟩ 105 (0,0))] (hI.2) (fun s _ hZ=>bN [(k:Int)] (hZ _ (.head _)) (by intro p hp;rfl)) (fun p _=>ai rfl) (by simp<;>omega) (fun v14 L14 oX=>?_)
  obtain⟨B0,Au,td⟩:=oX.form
  subst td
  refine zD 3<|je (.int .u8 ((k:Int)+1)) (aqa (n:=k+1) (by omega))<|zD 2<|bE bF (⟨k+1,(.slice B0 (((cb k)++[(k:Int)])).length Au),L14⟩) ⟨by dsimp only;omega,by dsimp only;rw[qZ];exact oX⟩ (by dsimp only;omega) [0] (Sub.refl _)
 refine zD 5<|jc (vs:=[v,.func (.func 90) ⟨[]⟩ ⟨[]⟩]) [0] (anl (by have:=hI.2;rwa[show k=16 by omega] at this)) ?_
 rintro aMr Y17 ⟨aKS,awn,uk⟩
 refine zD 7<|zR (v) [] [0] Y17 ⟨_,by rw[fq,hp8,←awn];exact uk,rfl⟩
theorem ayz{rows:List bG}(hF:nY ro f K rows)(hV:eG K)(hn:K.facts.length≤4):dE zT 61 [zP f] ro [] (fun r Y=>∃L,aw r 1 105 uV (fq K.facts.length) L∧Y=L):=by
 by_cases h:K.facts.length=4
 ·exact ayA hF hV h
 exact ar7 hF hV (by omega)
theorem auV:fq 4=[0,1,2,4,8,3,5,9,6,10,12,7,11,13,14,15]:=by kernel_rfl
theorem abl{n:Nat}(h:n≤4):(fq n).length≤16∧∀m∈fq n,0≤m∧m <16:=by
 by_cases e:n=4
 ·subst e;rw[auV];decide
 have:=Q0 (n:=n) (by omega);exact⟨by omega,this.2⟩
def fR(n:Nat):Nat→Nat→Nat→List (List Int)
 |0,_,_=>[[]]
 |k+1,i,f=>if i+(k+1)≤n then (match f with|0=>[]|f+1=>(fR n k (i+1) f).map (fun l=>(i:Int)::l)++fR n (k+1) (i+1) f) else []
theorem Ua:∀n,n≤4→((List.range (n+1)).map fun k=>fR n k 0 (n+1)).flatten=(fq n).map fun m=>iD m 4
 |0,_=>by kernel_rfl
 |1,_=>by kernel_rfl
 |2,_=>by kernel_rfl
 |3,_=>by kernel_rfl
 |4,_=>by kernel_rfl
 |n+5,h=>absurd h (by omega)
theorem anz{rows:List bG}(hK:fF ro l K)(hV:eG K)(hR:rows.length≤2)(hB:jk ro l K rows)(hn4:K.facts.length≤4):dE zT 22 [.agg ⟨l⟩] ro [] (fun r Y=>∃v e,r= .tuple ⟨[v,zI e]⟩∧((∃m,m∈fq K.facts.length∧pY K rows=some m∧aw v 1 3 cm (iD m 4) Y∧e=0)∨(pY K rows=none∧v= zS∧e=11∧Y=[]))):=by
 obtain⟨v0,v1,v3,v4,v5,v6,v7,vb,fa,fc,hv,rfl,_⟩:=hK
 have NK:=abl hn4
 have TA:=NK.1
 refine zE<|zD 2<|jn fun b1=>jd 6 [0]<|jc (vs:=[.agg ⟨[v0,v1,.slice fa 0 fc,v3,v4,v5,v6,v7,zI K.gone,zI K.new,zI K.af,vb]⟩]) [] (hB _ (Sub.refl _)) ?_
 rintro _ Z3 ⟨f10,rfl,aiK⟩
 refine zD 5<|jf [0] Z3 (fun yS cg iK=>?_)
 have Ba:=aiK _ cg iK
 refine zD 13<|jc (vs:=[zP f10]) [] (ayz Ba hV hn4) ?_
 rintro v17 L17 ⟨_,uk,rfl⟩
 refine CG uk<|zD 3<|dB [1,1,1,0,1,0,0] [] (fun(zz:Nat)=>[(4,zP f10),(17,v17),(18,zI ((fq K.facts.length).length:Int)),(19,zI (zz:Int))]) (fun zz=>[.l L17,.b b1 (.cells ⟨[v0,v1,.slice fa 0 fc,v3,v4,v5,v6,v7,zI K.gone,zI K.new,zI K.af,vb]⟩ 40 (0,0))]) (fun zz=>zz≤(fq K.facts.length).length∧pY K rows=((fq K.facts.length).drop zz).find? (fun m=>Iq K rows (iAn .u8 (aF K) m))) (fun zz=>(fq K.facts.length).length-zz) 0 ⟨Nat.zero_le _,rfl⟩ [0,1] ?_
 rintro k hI K1 bF rest
 refine zD 5<|zJ 20 ((k:Int) <((fq K.facts.length).length:Int)) (fun h4=>?_) fun h4=>?_
 ·
  refine zD 6 ?_
  obtain⟨vo,mG⟩:=zG ((fq K.facts.length)) k (by first|omega| (simp only[List.length_set,zM];omega))
  refine A0 1 uk mG fun b21 axN=>kJ 0 [0] L17 (fun s _ hZ=>bn uk axN hZ mG)<|zD 6<|jp (vs:=[zP f10]) [] [] (fun aG hs hZ=>yj hV (Ba.up hs))<|zD 1<|je (.int .u8 (iAn .u8 (aF K) vo)) rfl<|jc (vs:=[zP f10,.int .u8 (iAn .u8 (aF K) vo)]) [] (aHE Ba hV (by omega)) ?_
  rintro _ _ ⟨rfl,rfl⟩
  refine jg 0 []<|zD 1<|js 28 (Iq K rows (iAn .u8 (aF K) vo)) (fun h5=>?_) (fun h5=>?_)
  ·
   refine zD 4<|jc (vs:=[.int .u8 vo]) [] (Zw) ?_
   rintro v30 L30 ⟨_,uj,rfl⟩
   refine zD 4<|aL q0.a (.tuple ⟨[v30,zI 0]⟩) [] [0] L30 cg ⟨_,_,rfl,rfl,_,_,rfl,.inl ⟨_,zL mG,by rw[hI.2,Fo mG];simp only[*,cond_true],uj,rfl⟩⟩
  refine zD 3<|ja ((k:Int)+1) (by omega)<|zD 2<|bE bF (k+1) ⟨by omega,by rw[hI.2,Fo mG];simp only[*,cond_false]⟩ (by omega) [0,1] (Sub.refl _)
 refine zD 8<|aL q0.a (.tuple ⟨[zS,zI 11]⟩) [] [] [] cg ⟨_,_,rfl,rfl,_,_,rfl,.inr ⟨by rw[hI.2,SB (by omega)],rfl,rfl,rfl⟩⟩
theorem PU{n:Nat}(h:i+(k+1)≤n):fR n (k+1) i (f+1)=(fR n k (i+1) f).map (fun l=>(i:Int)::l)++fR n (k+1) (i+1) f:=by rw[fR,if_pos h]
theorem J0{n:Nat}(h:¬i+(k+1)≤n):fR n (k+1) i f=[]:=by cases f<;>rw[fR,if_neg h]
theorem sJ{n:Nat}:∀ {k i f:Nat} {l:List Int},l∈fR n k i f→l.length=k
 |0,_,_,l,h=>by rw[fR] at h;rw[List.mem_singleton.1 h];rfl
 |k+1,i,0,l,h=>by rw[fR] at h;split at h<;>cases h
 |k+1,i,f+1,l,h=>by
  rw[fR] at h
  split at h
  ·rcases List.mem_append.1 h with h|h
   ·obtain⟨m,hm,rfl⟩:=List.mem_map.1 h
    rw[List.length_cons,sJ hm]
   exact sJ h
  cases h
theorem af4{l:List α}{x:α}{g:α→β}{W:List β}(h:l[k]?=some x):W++(l.take (k+1)).map g=(W++(l.take k).map g)++[g x]:=by rw[iA h,List.map_append,List.append_assoc];rfl
theorem F6{n:Nat}(hn:n≤4):∀k i f,k≤4→n+1≤i+f→f≤10→(fR n k i f).length≤16:=by
 have key:((List.range 5).all fun n=>(List.range 5).all fun k=>(List.range 12).all fun i=>(List.range 11).all fun f=>Nat.ble (fR n k i f).length 16)=true:=by kernel_rfl
 intro k i f hk hf EH
 by_cases hi:i <12
 ·exact Nat.le_of_ble_eq_true (List.all_eq_true.1 (List.all_eq_true.1 (List.all_eq_true.1 (List.all_eq_true.1 key n (List.mem_range.2 (by omega))) k (List.mem_range.2 (by omega))) i (List.mem_range.2 hi)) f (List.mem_range.2 (by omega)))
 cases k with
 |zero=>simp[fR]
 |succ k=>rw[J0 (by omega)];exact Nat.zero_le _
def asw(k:Nat):Prop:=∀(ro:Nat→Option Obj) (i n f:Nat) (a b c:Int),a=i→b=n→c=k→(i≤10∧n≤4∧k≤4∧f≤10∧n+1≤i+f)→dE zT 64 [zI a,zI b,zI c] ro [] (fun r Y=>∀aD,Knows aD Y→LL aD r (fR n k i f))
theorem aDK{n:Nat}:dE zT 64 [zI (i:Int),zI (n:Int),zI 0] ro [] (fun r Y=>∀aD,Knows aD Y→LL aD r (fR n 0 i f)):=by
 refine zE<|zD 13<|jn fun vy=>zD 3<|zR (.slice (some ⟨vy,0,none⟩) 1 1) [] [0] [(vy,.cells ⟨[zS]⟩ 22 (0,0))] (fun aD hk=>⟨[zS],bU (enc:=fK) (T:=22) [Value.slice none 0 0] (hk _ (.head _)) (fun _ _=>rfl),by rw[fR];exact .cons ((aw.nil 1 3 cm).jW (fun _ h=>by cases h)) .nil⟩)
theorem aDJ{n:Nat}(ih:asw k)(hb:i≤10∧n≤4∧k+1≤4∧f≤10∧n+1≤i+f):dE zT 64 [zI (i:Int),zI (n:Int),zI ((k:Int)+1)] ro [] (fun r Y=>∀aD,Knows aD Y→LL aD r (fR n (k+1) i f)):=by
 have bbQ:=F6 (n:=n) (by omega) (k+1) i f (by omega) (by omega) (by omega)
 refine zE<|zD 10<|zJ 12 (((k:Int)+1)=0) (fun h1=>?_) fun h1=>?_
 ·
  exfalso;omega
 refine zD 13<|n8<|n8<|dB [1,1,1,0,1,0,0] [] (fun(zz:Nat×Nat×Value×Cells×(List Value)×Cells×(List (List Int)))=>[(1,zI (n:Int)),(2,zI ((k:Int)+1)),(6,zS),(7,zz.2.2.1),(8,zI (zz.1:Int))]) (fun(zz:Nat×Nat×Value×Cells×(List Value)×Cells×(List (List Int)))=>[.l zz.2.2.2.1,.l zz.2.2.2.2.2.1]) (fun(zz:Nat×Nat×Value×Cells×(List Value)×Cells×(List (List Int)))=>((i≤zz.1∧zz.1≤10∧zz.2.1≤10∧n+1≤zz.1+zz.2.1)∧zz.2.2.2.2.1.length=zz.2.2.2.2.2.2.length∧zz.2.2.2.2.2.2++fR n (k+1) zz.1 zz.2.1=fR n (k+1) i f)∧aw zz.2.2.1 1 22 fK zz.2.2.2.2.1 zz.2.2.2.1∧(∀aD,Knows aD zz.2.2.2.2.2.1→di (fun w l=>bC aD w 1 cm l) zz.2.2.2.2.1 zz.2.2.2.2.2.2)) (fun(zz:Nat×Nat×Value×Cells×(List Value)×Cells×(List (List Int)))=>11-zz.1) (⟨i,f,zS,[],[],[],[]⟩) ⟨⟨by dsimp only;omega,rfl,rfl⟩,aw.nil _ _ _,fun _ _=> .nil⟩ [1,0] ?_
 rintro⟨a,fl,vO,LO,es,Z,W⟩ hI K1 bF rest
 dsimp only at hI
 refine zD 5<|ja ((a:Int)+((k:Int)+1)) (by omega)<|zD 3<|zJ 19 (((a:Int)+((k:Int)+1))≤(n:Int)) (fun h2=>?_) fun h2=>?_
 ·
  refine zD 7<|ja ((a:Int)+1) (by omega)<|zD 2<|ja (((k:Int)+1)-1) (by omega)<|jc (vs:=[zI ((a:Int)+1),zI (n:Int),zI (((k:Int)+1)-1)]) [] (ih _ (a+1) n (fl-1) _ _ _ (by omega) rfl (by omega) (by omega)) ?_
  rintro v27 Y27 C1
  refine zD 5<|jf [0] Y27 (fun ro5 BO hk4=>?_)
  obtain⟨Bo,htB,axQ⟩:=C1 _ hk4
  obtain⟨aMF,aZ0,aZY,aCk,rfl,aZZ,aME,aMD⟩:=htB
  have aQ0:=axQ.len
  obtain⟨f1,rfl⟩:∃f1,fl=f1+1:=⟨fl-1,by omega⟩
  have hcn:=F6 (n:=n) (by omega) k (a+1) f1 (by omega) (by omega) (by omega)
  rw[Nat.add_sub_cancel] at axQ aQ0
  refine zD 2 ?_
  obtain⟨W0,hW0⟩:∃W0,W0=W:=⟨_,rfl⟩
  have h33:=congrArg List.length hI.1.2.2
  rw[PU (by omega)] at h33
  simp only[List.length_append,List.length_map] at h33
  have h35:=congrArg List.length hW0
  refine dB [1,1,1,0,1,0,0,1,0,0,1,1,0,0] [K1] (fun(zz:Nat×Value×Cells×(List Value)×Cells×(List (List Int)))=>[(1,zI (n:Int)),(2,zI ((k:Int)+1)),(6,zS),(7,zz.2.1),(8,zI (a:Int)),(9,.slice aMF Bo.length aCk),(10,zI (zz.1:Int))]) (fun(zz:Nat×Value×Cells×(List Value)×Cells×(List (List Int)))=>[.l zz.2.2.1,.l zz.2.2.2.2.1]) (fun(zz:Nat×Value×Cells×(List Value)×Cells×(List (List Int)))=>(zz.1≤(fR n k (a+1) f1).length∧zz.2.2.2.1.length=zz.2.2.2.2.2.length∧zz.2.2.2.2.2=W0++((fR n k (a+1) f1).take zz.1).map (fun l=>(a:Int)::l))∧aw zz.2.1 1 22 fK zz.2.2.2.1 zz.2.2.1∧(∀aD,Knows aD zz.2.2.2.2.1→di (fun w l=>bC aD w 1 cm l) zz.2.2.2.1 zz.2.2.2.2.2)) (fun(zz:Nat×Value×Cells×(List Value)×Cells×(List (List Int)))=>(fR n k (a+1) f1).length-zz.1) (⟨0,vO,LO,es,Z,W⟩) ⟨⟨Nat.zero_le _,hI.1.2.1,by simp[hW0]⟩,hI.2.1,hI.2.2⟩ [0,1] ?_
  rintro⟨j,vO,LO,es,Z,W⟩ hJ K2 kL rest
  dsimp only at hJ
  have h34:=congrArg List.length hJ.1.2.2
  simp only[List.length_append,List.length_map,List.length_take] at h34
  refine zD 8<|zJ 31 ((j:Int) <(Bo.length:Int)) (fun h6=>?_) fun h6=>?_
  ·
   refine zD 7<|jn fun qX=>zD 2 ?_
   obtain⟨BK,oF⟩:=zG Bo j
   refine gY aCk 1 aME oF ?_
   obtain⟨l40,aFE,h40⟩:=axQ.get oF
   obtain bcf:=sJ (zL aFE)
   obtain⟨aCP,aM2,aMZ,aCO,rfl,bak,aM1,aM0⟩:=h40
   refine jl 0 (aMD _ _ oF)<|iE (sz:=1) (ps:=[(a:Int)]) (qs:=l40) (enc:=cm) (w:= .slice aCP l40.length aCO) [0] [] [] (AQ (b:=qX) (T:=3) [(a:Int)] rfl (by intro p hp;rfl)) (fun s he _=>⟨aCP,aM2,aMZ,aCO,rfl,aM1,fun i p hp=>(aM0 i p hp).ext he⟩) (fun p _=>ai rfl) (by simp only[List.length_cons,List.length_nil];omega) (fun v41 L41 mI=>?_)
   obtain⟨vJ,vI,CY⟩:=mI.form
   subst CY
   refine jn fun b42=>iE (sz:=1) (ps:=es) (qs:=[((.slice vJ (([(a:Int)]++l40)).length vI):Value)]) (enc:=fK) (w:= .slice (some ⟨b42,0,none⟩) 1 1) [2] [0] [(b42,.cells ⟨([((.slice vJ (([(a:Int)]++l40)).length vI):Value)].map fK).flatten⟩ 22 (0,0))] (hJ.2.1) (fun s _ hZ=>bN [((.slice vJ (([(a:Int)]++l40)).length vI):Value)] (hZ _ (.head _)) (by intro p hp;rfl)) (by intro p hp;rw[List.mem_singleton] at hp;subst hp;exact ai rfl) (by simp only[List.length_cons,List.length_nil];omega) (fun v43 L43 ahw=>?_)
   obtain⟨adT,adL,aia⟩:=ahw.form
   subst aia
   refine zD 4<|ja ((j:Int)+1) (by omega)<|zD 2<|KY kL (⟨j+1,(.slice adT ((es++[((.slice vJ (([(a:Int)]++l40)).length vI):Value)])).length adL),L43,(es++[((.slice vJ (([(a:Int)]++l40)).length vI):Value)]),Z++L41,W++[(a:Int)::l40]⟩) ⟨⟨by dsimp only;omega,by dsimp only;simp only[zM];omega,by dsimp only;rw[hJ.1.2.2,af4 aFE]⟩,ahw,fun aD hk=>(hJ.2.2 aD hk.left).snoc (mI.jW hk.right)⟩ (by dsimp only;omega) [[0],[3,2]] (Sub.refl _)
  refine zD 4<|ja ((a:Int)+1) (by omega)<|zD 2<|bE bF (⟨a+1,f1,vO,LO,es,Z,W⟩) ⟨⟨by dsimp only;omega,hJ.1.2.1,by have h3:=hI.1.2.2;rw[PU (by omega),←List.append_assoc] at h3;rw[←h3,hJ.1.2.2,hW0,List.take_of_length_le (by omega)]⟩,hJ.2.1,hJ.2.2⟩ (by dsimp only;omega) [0,1] BO
 refine zD 8<|zR (vO) [] [0,1] (LO++Z) (fun aD hk=>⟨es,hI.2.1.jW hk.left,by have h3:=hI.1.2.2;rw[J0 (by omega),List.append_nil] at h3;rw[←h3];exact hI.2.2 aD hk.right⟩)
def IQ(on:Int):List bM→Nat→List bM
 | [],_=>[]
 |x::l,k=>(bif hasB on k then [x] else [])++IQ on l (k+1)
abbrev Ed(K:aB)(fs:List bM):aB:={K with facts:=fs}
theorem afy{on:Int}{a b:Int}:∀ {l:List bM} {k:Nat},u1 on a b l k=sM a b (IQ on l k)
 | [],_=>rfl
 |x::l,k=>by
  have ih:=afy (on:=on) (a:=a) (b:=b) (l:=l) (k:=k+1)
  simp only[u1,IQ,ih]
  cases hasB on k<;>simp[sM]
theorem QF{on:Int}{p:Nat→Int}:∀ {l:List bM} {k:Nat},jY on p l k=lL p (IQ on l k)
 | [],_=>rfl
 |x::l,k=>by
  have ih:=QF (on:=on) (p:=p) (l:=l) (k:=k+1)
  simp only[jY,IQ,ih]
  cases hasB on k<;>simp[lL]
theorem afA{on:Int}:∀ {l:List bM} {k:Nat},(IQ on l k).length≤l.length
 | [],_=>Nat.le_refl _
 |x::l,k=>by
  have ih:=afA (on:=on) (l:=l) (k:=k+1)
  simp only[IQ,List.length_append,List.length_cons]
  cases hasB on k<;>simp<;>omega
theorem auD{on:Int}(a b:Nat):dc K on a b=pJ (Ed K (IQ on K.facts 0)) a b:=by
 simp only[dc,pJ,afy]
 rfl
theorem X5{on:Int}:∀(n a:Nat) (p:Nat→Int),gA K on n a p=fy (pJ (Ed K (IQ on K.facts 0))) (fun p=>lL p (IQ on K.facts 0)) K.after.length n a p
 |0,a,p=>by simp only[gA,fy,QF]
 |n+1,a,p=>by simp only[gA,fy,auD,X5 n]
theorem afz{on:Int}(h:K.facts.length≤4):aJ K on=aJ (Ed K (IQ on K.facts 0)) (aF (Ed K (IQ on K.facts 0))):=by
 rw[aJ,aJ,X5,mM (K:=Ed K (IQ on K.facts 0)) (by have:=afA (on:=on) (l:=K.facts) (k:=0);show (IQ on K.facts 0).length≤4;omega)]
theorem OF{K:aB}{rows:List bG}{p:Nat→Int}:∀ {n:Nat},n≤rows.length→(EO K rows p n=true↔∃i r,i <n∧rows[i]?=some r∧cB K.gone K.new K.af (cu K r i p)=true)
 |0,_=>by simp[EO]
 |n+1,h=>by
  have ih:=OF (K:=K) (rows:=rows) (p:=p) (n:=n) (by omega)
  obtain⟨r,hr⟩:∃r,rows[n]?=some r:=⟨_,List.getElem?_eq_getElem (by omega)⟩
  rw[OG hr,Bool.or_eq_true,ih]
  constructor
  ·rintro(⟨i,r,h1,h2⟩|h1)
   ·exact⟨i,r,by omega,h2⟩
   exact⟨n,r,by omega,hr,h1⟩
  rintro⟨i,r',h1,h2,h3⟩
  by_cases e:i=n
  ·subst e;rw[hr] at h2;cases h2;exact .inr h3
  exact .inl ⟨i,r',by omega,h2,h3⟩
theorem WB{on:Int}(h:K.facts.length≤4):Iq K (cS K) on=decide (0 <cF (Ed K (IQ on K.facts 0))):=by
 rw[Bool.eq_iff_iff,decide_eq_true_eq,Iq,List.any_eq_true,afz h]
 constructor
 ·rintro⟨p,hp,ha⟩
  obtain⟨i,r,h1,h2,h3⟩:=(OF (Nat.le_refl _)).1 ha
  refine List.length_pos_of_mem (a:=cu K r i p) (List.mem_flatten.2 ⟨_,List.mem_map.2 ⟨i,List.mem_range.2 h1,rfl⟩,?_⟩)
  have lD:(cS (Ed K (IQ on K.facts 0)))[i]?=some r:=h2
  simp only[lD,Option.getD_some,mB]
  exact List.mem_filter.2 ⟨List.mem_map.2 ⟨p,hp,rfl⟩,h3⟩
 intro hn
 obtain⟨x,hx⟩:=List.exists_mem_of_length_pos hn
 obtain⟨i,r,p,hr,hp,rfl,hk⟩:=gL hx
 exact⟨p,hp,(OF (Nat.le_refl _)).2 ⟨i,r,(List.getElem?_eq_some_iff.1 hr).1,hr,hk⟩⟩
def iQ(fs:List bM)(s:List Int)(b:Bool):Nat→List bM
 |0=>[]
 |i+1=>iQ fs s b i++(match fs[i]? with|some x=>bif (decide (bR (fun y=>decide (y=(i:Int))) s 0≥0)==b) then [x] else []|none=>[])
theorem Yv{x:bM}(hx:fs[i]?=some x) (h:(decide (bR (fun y=>decide (y=(i:Int))) s 0≥0)==b)=true):iQ fs s b (i+1)=iQ fs s b i++[x]:=by rw[iQ,hx];simp only[h,cond_true]
theorem Yw{x:bM}(hx:fs[i]?=some x) (h:(decide (bR (fun y=>decide (y=(i:Int))) s 0≥0)==b)=false):iQ fs s b (i+1)=iQ fs s b i:=by rw[iQ,hx];simp only[h,cond_false,List.append_nil]
theorem xC{fs:List bM}{s:List Int}{b:Bool}:∀i,(iQ fs s b i).length≤i
 |0=>Nat.le_refl _
 |i+1=>by
  have ih:=xC (fs:=fs) (s:=s) (b:=b) i
  rw[iQ,List.length_append]
  split
  ·cases (decide (bR (fun y=>decide (y=(i:Int))) s 0≥0)==b)<;>simp<;>omega
  simp;omega
theorem amW{on:Int}(h:∀i:Nat,i <fs.length→hasB on (i:Int)=(decide (bR (fun y=>decide (y=(i:Int))) s 0≥0)==b)):IQ on fs 0=iQ fs s b fs.length:=by
 have key:∀k,k≤fs.length→IQ on fs 0=iQ fs s b k++IQ on (fs.drop k) k:=fun k=>by
  induction k with
  |zero=>intro _;rw[List.drop_zero];rfl
  |succ k ih=>
   intro hk
   obtain⟨x,hx⟩:∃x,fs[k]?=some x:=⟨_,List.getElem?_eq_getElem (by omega)⟩
   rw[ih (by omega),eB hx,IQ,h k (by omega)]
   cases e:(decide (bR (fun y=>decide (y=(k:Int))) s 0≥0)==b)
   ·rw[Yw hx e,cond_false,List.nil_append]
   rw[Yv hx e,cond_true,List.append_assoc]
 have:=key fs.length (Nat.le_refl _)
 rwa[List.drop_length,show IQ on ([]:List bM) fs.length=[] from rfl,List.append_nil] at this
theorem aba:((List.range 5).all fun N=>(fq N).all fun m=>(List.range N).all fun i=>hasB (iAn .u8 (IntKind.u8.wrap (dv .u8 1 (N:Int)-1)) m) (i:Int)==(decide (bR (fun y=>decide (y=(i:Int))) (iD m 4) 0≥0)==false))=true:=by kernel_rfl
theorem amV{m:Int}(h:K.facts.length≤4)(hm:m∈fq K.facts.length):IQ (iAn .u8 (aF K) m) K.facts 0=iQ K.facts (iD m 4) false K.facts.length:=
 amW fun i hi=>eq_of_beq (List.all_eq_true.1 (List.all_eq_true.1 (List.all_eq_true.1 aba K.facts.length (List.mem_range.2 (by omega))) m hm) i (List.mem_range.2 hi))
abbrev Ti(K:aB)(s:List Int)(b:Bool):aB:=Ed K (iQ K.facts s b K.facts.length)
theorem CE{t:bM}:∀ {i},t∈iQ fs s b i→t∈fs
 |0,h=>by cases h
 |i+1,h=>by
  rw[iQ] at h
  rcases List.mem_append.1 h with h|h
  ·exact CE h
  split at h
  ·rename_i x hx
   cases e:(decide (bR (fun y=>decide (y=(i:Int))) s 0≥0)==b)<;>rw[e] at h
   ·cases h
   rw[List.mem_singleton.1 h];exact zL hx
  cases h
theorem Re{fs:List bM}{s:List Int}{b:Bool}{R:bM→bM→Prop}(h:fs.Pairwise R):∀i,(iQ fs s b i).Pairwise R∧∀t∈iQ fs s b i,∃j,j <i∧fs[j]?=some t
 |0=>⟨.nil,fun _ h=>by cases h⟩
 |i+1=>by
  obtain⟨h1,h2⟩:=Re h (s:=s) (b:=b) i
  rw[iQ]
  split
  ·rename_i x hx
   cases e:(decide (bR (fun y=>decide (y=(i:Int))) s 0≥0)==b)
   ·simp only[cond_false,List.append_nil];exact⟨h1,fun t ht=>by obtain⟨j,hj,hx⟩:=h2 t ht;exact⟨j,by omega,hx⟩⟩
   simp only[cond_true]
   refine⟨List.pairwise_append.2 ⟨h1,List.pairwise_singleton _ _,fun t ht u hu=>?_⟩,fun t ht=>?_⟩
   ·rw[List.mem_singleton.1 hu]
    obtain⟨j,hj,hy⟩:=h2 t ht
    obtain⟨a1,rfl⟩:=List.getElem?_eq_some_iff.1 hy
    obtain⟨a2,rfl⟩:=List.getElem?_eq_some_iff.1 hx
    exact List.pairwise_iff_getElem.1 h j i a1 a2 hj
   rcases List.mem_append.1 ht with ht|ht
   ·obtain⟨j,hj,hx⟩:=h2 t ht;exact⟨j,by omega,hx⟩
   rw[List.mem_singleton.1 ht];exact⟨i,by omega,hx⟩
  simp only[List.append_nil];exact⟨h1,fun t ht=>by obtain⟨j,hj,hx⟩:=h2 t ht;exact⟨j,by omega,hx⟩⟩
theorem jz.kp(h:jz K):jz (Ti K s b):=
 ⟨h.oS,h.ways,h.c8,h.rules,h.before,h.after,h.tZ,⟨by have:=xC (fs:=K.facts) (s:=s) (b:=b) K.facts.length;have:=h.facts.1;show (iQ K.facts s b K.facts.length).length≤4;omega,fun t ht=>h.facts.2 t (CE ht)⟩,(Re h.apart K.facts.length).1⟩
theorem eG.kp(h:eG K):eG (Ti K s b):=
 ⟨h.rules,h.before,h.after,h.c8,⟨by have:=xC (fs:=K.facts) (s:=s) (b:=b) K.facts.length;have:=h.facts.1;show (iQ K.facts s b K.facts.length).length≤4;omega,fun t ht=>h.facts.2 t (CE ht)⟩⟩
def Lx(K:aB)(s:List Int):Bool:=decide (0 <cF (Ti K s false))
theorem ab5{m:Int}(h:K.facts.length≤4)(hm:m∈fq K.facts.length):Iq K (cS K) (iAn .u8 (aF K) m)=Lx K (iD m 4):=by
 rw[WB h,amV h hm];rfl
def vz(K:aB):Option (List Int):=(((List.range (K.facts.length+1)).map fun k=>fR K.facts.length k 0 (K.facts.length+1)).flatten).find? (Lx K)
theorem LQ{f:α→β}{p:β→Bool}:∀ {l:List α},(l.map f).find? p=(l.find? fun x=>p (f x)).map f
 | []=>rfl
 |x::l=>by rw[List.map_cons,List.find?_cons,List.find?_cons,LQ (l:=l)];cases p (f x)<;>rfl
theorem Zs{p q:α→Bool}:∀ {l:List α},(∀x∈l,p x=q x)→l.find? p=l.find? q
 | [],_=>rfl
 |x::l,h=>by rw[List.find?_cons,List.find?_cons,h x List.mem_cons_self,Zs fun y hy=>h y (List.mem_cons_of_mem _ hy)]
theorem Po(h:K.facts.length≤4):vz K=(pY K (cS K)).map fun m=>iD m 4:=by
 rw[vz,Ua _ h,LQ,pY]
 congr 1
 exact Zs fun m hm=>(ab5 h hm).symm
theorem aqx:∀k,asw k
 |0=>fun ro i n f a b c ha hb hc h=>by subst ha hb hc;exact aDK
 |k+1=>fun ro i n f a b c ha hb hc h=>by subst ha hb hc;exact aDJ (aqx k) h
theorem af7{n:Nat}(h:n≤4∧k≤4):dE zT 23 [zI (n:Int),zI (k:Int)] ro [] (fun r Y=>∀aD,Knows aD Y→LL aD r (fR n k 0 (n+1))):=by
 refine zE<|zD 8<|jc (vs:=[zI 0,zI (n:Int),zI (k:Int)]) [] (aqx k _ 0 n (n+1) _ _ _ rfl rfl rfl (by omega)) ?_
 rintro v7 Y7 Sb
 refine zD 3<|zR (v7) [] [0] Y7 Sb
set_option maxHeartbeats 2000000 in
theorem agN (hK:fF ro l K) (hO:jz K):dE zT 10 [.agg ⟨l⟩] ro [] (fun r Y=>∃(v0 v1 v3 v4 v5 v6 v7 vb:Value) (fa:Option Addr) (fc:Nat) (LF Z:Cells),r= .agg ⟨[v0,v1,.slice fa 0 fc,v3,v4,v5,v6,v7,zI K.gone,zI K.new,zI K.af,vb]⟩∧(∀v∈[v0,v1,v3,v4,v5,v6,v7,vb],single v=true)∧aw vb 3 58 m8 K.facts LF∧(∀aD,Sub ro aD→Knows aD Z→∀(vf:Value) (fs:List bM),bC aD vf 3 m8 fs→fF aD [v0,v1,.slice fa 0 fc,v3,v4,v5,v6,v7,zI K.gone,zI K.new,zI K.af,vf] {K with facts:=fs})∧Y=LF++Z):=by
 obtain⟨vS,vT,vc,vh,vr,vb,va,vf,fa,fc,hv,rfl,hS,hT,qo,nJ,hr,hb,ha,hf⟩:=hK
 obtain⟨ib,hs,e9⟩:=id hS
 obtain⟨iN,ht,eT⟩:=id hT
 obtain⟨hc,hh,DT⟩:=id qo
 obtain⟨lu,Qi,Qg,kB,rfl,Qh,Jl,Jk⟩:=hs
 obtain⟨eP,AG,AE,dQ,rfl,AF,sr,sq⟩:=ht
 obtain⟨eg,AJ,AI,dV,rfl,DC,yU,yT⟩:=hc
 obtain⟨dI,u4,u3,du,rfl,xw,qR,qQ⟩:=hh
 obtain⟨kU,IP,IN,kT,rfl,OX,Gq,Gp⟩:=hr
 obtain⟨mw,O0,OY,mo,rfl,OZ,MS,MQ⟩:=hb
 obtain⟨lP,Ko,Kl,lG,rfl,Km,Jn,Jm⟩:=ha
 obtain⟨gX,v9,vZ,fT,rfl,AH,qL,qK⟩:=hf
 have CX:=hO.rules
 have qO:=hO.before.1
 have O8:=hO.after.1
 have O7:=hO.facts.1
 have O6:=hO.ways.1
 have IZ:=e9.len
 have EB:=eT.len
 have Y0:=hO.oS.two
 have hl9:=hO.c8.nh
 have OW:∀(i:Nat) (p:da),([]:List da)[i]?=some p→cA ⟨ro,[]⟩ 0 (0+i*6) 6 (mP p):=fun _ _ h=>oE h
 refine zE<|zD 2<|jn fun b1=>jn fun b2=>zD 3<|jn fun b6=>jd 3 [2]<|iE (sz:=6) (ps:=[]) (qs:=([]:List da)) (enc:=mP) (w:= .slice fa 0 fc) [0] [] [] (bB (b:=b6) (T:=267)) (fun s he _=>⟨fa,0,0,fc,rfl,(fun _ h=>absurd h (Nat.not_lt_zero _)),fun i p hp=>(OW i p hp).ext he⟩) (fun p _=>ai rfl) (by simp<;>omega) (fun v10 L10 Hq=>?_)
 rw[List.nil_append] at Hq
 obtain⟨yI,yG,axo⟩:=Hq.form
 subst axo
 refine zD 1<|jn fun b3=>jd 8 [0]<|n8<|n8<|dB [1,1,0,1,0,0] [] (fun(zz:Nat×Value×Cells×(List Value)×Cells)=>[(1,zP b1),(2,zP b2),(3,zP b3),(4,zI (zz.1:Int))]) (fun zz=>[.b b3 (.cells ⟨[zz.2.1,zS,(.slice yI (([]:List da)).length yG)]⟩ 31 (0,0)),.l zz.2.2.1,.l zz.2.2.2.2,.l L10,.b b2 (.cells ⟨zO⟩ 40 (0,0)),.b b1 (.cells ⟨[.slice lu ib.length kB,.slice eP iN.length dQ,.slice fa 0 fc,.slice eg K.cs.length dV,.slice dI hv.length du,.slice kU K.rules.length kT,.slice mw K.before.length mo,.slice lP K.after.length lG,zI K.gone,zI K.new,zI K.af,.slice gX K.facts.length fT]⟩ 40 (0,0))]) (fun zz=>(zz.1≤ib.length∧zz.2.2.2.1.length=zz.1)∧aw zz.2.1 1 80 fK zz.2.2.2.1 zz.2.2.1∧∀aD,Knows aD zz.2.2.2.2→di (fun w l=>bC aD w 2 cJ l) zz.2.2.2.1 (K.str.take zz.1)) (fun zz=>ib.length-zz.1) (⟨0,zS,[],[],[]⟩) ⟨⟨by omega,rfl⟩,aw.nil _ _ _,fun _ _=> .nil⟩ [2,1,0,3,4,5] ?_
 rintro⟨i,v0,L0,ps,Z⟩ hI K1 bF rest
 dsimp only at hI
 refine jd 11 [5]<|zJ 18 ((i:Int) <(ib.length:Int)) (fun h1=>?_) fun h1=>?_
 ·
  refine jd 13 [0,5] ?_
  obtain⟨ku,fO⟩:=zG ib i
  refine gY kB 1 Jl fO ?_
  obtain⟨Ra,ahV,h31⟩:=e9.get fO
  obtain aQn:=hO.oS.len _ (zL ahV)
  obtain⟨ae5,auo,aul,ae4,rfl,aM6,aun,aum⟩:=h31
  refine jl 0 (Jk _ _ fO)<|aS 3 fun yD yK ya=>jn fun Fs=>eo ya (zN 1 6)<|aS 11 fun oh ov mZ=>iE (sz:=2) (ps:=[]) (qs:=Ra) (enc:=cJ) (w:= .slice ae5 Ra.length ae4) [0] [] [] (bB (b:=Fs) (T:=79)) (fun s he _=>⟨ae5,auo,aul,ae4,rfl,aun,fun i p hp=>(aum i p hp).ext he⟩) (fun p _=>ai rfl) (by simp<;>omega) (fun v32 L32 zd=>?_)
  rw[List.nil_append] at zd
  obtain⟨yH,yF,VF⟩:=zd.form
  subst VF
  refine gx mZ [[6],[1]]<|aS 12 fun pX p6 oZ=>jn fun b33=>eo oZ (zN 1 7)<|aS 13 fun yC yJ zm=>iE (sz:=1) (ps:=ps) (qs:=[((.slice yH (Ra).length yF):Value)]) (enc:=fK) (w:= .slice (some ⟨b33,0,none⟩) 1 1) [3] [0] [(b33,.cells ⟨([((.slice yH (Ra).length yF):Value)].map fK).flatten⟩ 80 (0,0))] (hI.2.1) (fun s _ hZ=>bN [((.slice yH (Ra).length yF):Value)] (hZ _ (.head _)) (by intro p hp;rfl)) (by intro p hp;rw[List.mem_singleton] at hp;subst hp;exact ai rfl) (by simp<;>omega) (fun v34 L34 Hm=>?_)
  obtain⟨T3,TX,VE⟩:=Hm.form
  subst VE
  refine gx zm [[7]]<|zD 2<|aS 16 fun adj ad5 hL6=>jd 1 [3]<|gx hL6 []<|zD 3<|ja ((i:Int)+1) (by omega)<|zD 2<|KY bF (⟨i+1,(.slice T3 ((ps++[((.slice yH (Ra).length yF):Value)])).length TX),L34,(ps++[((.slice yH (Ra).length yF):Value)]),L32++Z⟩) ⟨⟨by dsimp only;omega,by simp only[zM];omega⟩,Hm,fun aD hk=>pW (hI.2.2 aD hk.right) ahV (zd.jW hk.left)⟩ (by omega) [[3],[0],[2,4],[5],[6],[7]] (Sub.refl _)
 refine zD 8<|n8<|n8<|dB [1,1,1,0,1,0,0] [] (fun(zz:Nat×Value×Cells×(List Value)×Cells)=>[(1,zP b1),(2,zP b2),(3,zP b3),(5,zI (zz.1:Int))]) (fun zz=>[.b b3 (.cells ⟨[v0,zz.2.1,(.slice yI (([]:List da)).length yG)]⟩ 31 (0,0)),.l zz.2.2.1,.l zz.2.2.2.2,.l L0,.l Z,.l L10,.b b2 (.cells ⟨zO⟩ 40 (0,0)),.b b1 (.cells ⟨[.slice lu ib.length kB,.slice eP iN.length dQ,.slice fa 0 fc,.slice eg K.cs.length dV,.slice dI hv.length du,.slice kU K.rules.length kT,.slice mw K.before.length mo,.slice lP K.after.length lG,zI K.gone,zI K.new,zI K.af,.slice gX K.facts.length fT]⟩ 40 (0,0))]) (fun zz=>(zz.1≤iN.length∧zz.2.2.2.1.length=zz.1)∧aw zz.2.1 1 87 fK zz.2.2.2.1 zz.2.2.1∧∀aD,Knows aD zz.2.2.2.2→di (fun w l=>bC aD w 7 kO l) zz.2.2.2.1 (K.ways.take zz.1)) (fun zz=>iN.length-zz.1) (⟨0,zS,[],[],[]⟩) ⟨⟨by omega,rfl⟩,aw.nil _ _ _,fun _ _=> .nil⟩ [2,1,0,3,4,5,6,7] ?_
 rintro⟨j,v1,L1,qs,Z1⟩ hG K7 hK7 rest
 dsimp only at hG
 refine jd 10 [7]<|zJ 42 ((j:Int) <(iN.length:Int)) (fun h7=>?_) fun h7=>?_
 ·
  refine jd 11 [0,7] ?_
  obtain⟨x52,sY⟩:=zG iN j
  refine gY dQ 1 sr sY<|zD 1 ?_
  obtain⟨U3,ahU,h54⟩:=eT.get sY
  obtain aQj:=(hO.ways.2 _ (zL ahU)).1.2
  obtain⟨ae3,auk,auh,ae2,rfl,aMM,auj,aui⟩:=h54
  refine jl 0 (sq _ _ sY)<|aS 2 fun aae aat hL8=>jn fun b47=>eo hL8 (zN 1 8)<|aS 10 fun TO T5 Sa=>iE (sz:=7) (ps:=[]) (qs:=U3) (enc:=kO) (w:= .slice ae3 U3.length ae2) [0] [] [] (bB (b:=b47) (T:=83)) (fun s he _=>⟨ae3,auk,auh,ae2,rfl,auj,fun i p hp=>(aui i p hp).ext he⟩) (fun p _=>ai rfl) (by simp<;>omega) (fun v55 L55 zc=>?_)
  rw[List.nil_append] at zc
  obtain⟨FH,FE,axf⟩:=zc.form
  subst axf
  refine gx Sa [[8],[1]]<|zD 1<|aS 12 fun Fx FY wG=>jn fun b57=>eo wG (zN 1 9)<|aS 13 fun Fw FX zn=>iE (sz:=1) (ps:=qs) (qs:=[((.slice FH (U3).length FE):Value)]) (enc:=fK) (w:= .slice (some ⟨b57,0,none⟩) 1 1) [3] [0] [(b57,.cells ⟨([((.slice FH (U3).length FE):Value)].map fK).flatten⟩ 87 (0,0))] (hG.2.1) (fun s _ hZ=>bN [((.slice FH (U3).length FE):Value)] (hZ _ (.head _)) (by intro p hp;rfl)) (by intro p hp;rw[List.mem_singleton] at hp;subst hp;exact ai rfl) (by simp<;>omega) (fun v58 L58 Hi=>?_)
  obtain⟨T1,TW,Hx⟩:=Hi.form
  subst Hx
  refine gx zn [[9]]<|zD 1<|aS 15 fun Pm PJ C3=>jd 1 [3]<|fU C3<|zD 3<|ja ((j:Int)+1) (by omega)<|zD 2<|KY hK7 (⟨j+1,(.slice T1 ((qs++[((.slice FH (U3).length FE):Value)])).length TW),L58,(qs++[((.slice FH (U3).length FE):Value)]),L55++Z1⟩) ⟨⟨by dsimp only;omega,by simp only[zM];omega⟩,Hi,fun aD hk=>pW (hG.2.2 aD hk.right) ahU (zc.jW hk.left)⟩ (by omega) [[3],[0],[2,4],[5],[6],[7],[8],[9]] (Sub.refl _)
 refine zD 3<|Es [1,1,1,1,1] [] (fun(zz:(Option Addr)×Nat×(Option Addr)×Nat×(List bA)×Cells×Value×Cells)=>[(1,zP b1),(2,zP b2)]) (fun zz=>[.b b1 (.cells ⟨[v0,v1,(.slice yI (([]:List da)).length yG),(.slice zz.1 K.cs.length zz.2.1),(.slice zz.2.2.1 zz.2.2.2.2.1.length zz.2.2.2.1),zz.2.2.2.2.2.2.1,.slice mw K.before.length mo,.slice lP K.after.length lG,zI K.gone,zI K.new,zI K.af,.slice gX K.facts.length fT]⟩ 40 (0,0)),.l zz.2.2.2.2.2.2.2,.l zz.2.2.2.2.2.1,.b b3 (.cells ⟨[v0,v1,(.slice yI (([]:List da)).length yG)]⟩ 31 (0,0)),.l L1,.l Z1,.l L0,.l Z,.l L10,.b b2 (.cells ⟨zO⟩ 40 (0,0))]) (fun zz=>di dq zz.2.2.2.2.1 K.hd∧(∀aD,Sub ro aD→Knows aD zz.2.2.2.2.2.1→jb aD (.slice zz.1 K.cs.length zz.2.1) (.slice zz.2.2.1 zz.2.2.2.2.1.length zz.2.2.2.1) K.cs zz.2.2.2.2.1 K.hd)∧aw zz.2.2.2.2.2.2.1 2 45 iG K.rules zz.2.2.2.2.2.2.2) ?_ (fun K13 NX=>?_)
 ·
  rintro⟨ta,tc,ua,uc,hw,ZT,vR,LR⟩ hJ rest
  dsimp only at hJ
  refine zD 1<|Es [1,1,1,1,1,1] [] (fun(zz:Value×Cells×Value×Cells×Value×Cells)=>[(1,zP b1),(2,zP b2)]) (fun zz=>[.b b1 (.cells ⟨[v0,v1,(.slice yI (([]:List da)).length yG),(.slice ta K.cs.length tc),(.slice ua hw.length uc),vR,zz.1,zz.2.2.1,zI K.gone,zI K.new,zI K.af,zz.2.2.2.2.1]⟩ 40 (0,0)),.l zz.2.1,.l zz.2.2.2.1,.l zz.2.2.2.2.2,.l LR,.l ZT,.b b3 (.cells ⟨[v0,v1,(.slice yI (([]:List da)).length yG)]⟩ 31 (0,0)),.l L1,.l Z1,.l L0,.l Z,.l L10,.b b2 (.cells ⟨zO⟩ 40 (0,0))]) (fun zz=>aw zz.1 5 55 eA K.before zz.2.1∧aw zz.2.2.1 5 55 eA K.after zz.2.2.2.1∧aw zz.2.2.2.2.1 3 58 m8 K.facts zz.2.2.2.2.2) ?_ (fun K14 JD=>?_)
  ·
   rintro⟨vB,LB,vA,LA,vF,LF⟩ hM rest
   dsimp only at hM
   refine jd 3 [0] ?_
   obtain⟨ate,as4,axn⟩:=hI.2.1.form
   subst axn
   obtain⟨B0,Au,td⟩:=hG.2.1.form
   subst td
   obtain⟨atd,as3,NO⟩:=hJ.2.2.form
   subst NO
   obtain⟨atc,as2,aid⟩:=hM.1.form
   subst aid
   obtain⟨xV,xU,JA⟩:=hM.2.1.form
   subst JA
   obtain⟨adW,aam,NN⟩:=hM.2.2.form
   subst NN
   refine jd 3 [12]<|zR (.agg ⟨[(.slice ate (ps).length as4),(.slice B0 (qs).length Au),(.slice yI (([]:List da)).length yG),(.slice ta K.cs.length tc),(.slice ua hw.length uc),(.slice atd (K.rules).length as3),(.slice atc (K.before).length as2),(.slice xV (K.after).length xU),zI K.gone,zI K.new,zI K.af,(.slice adW (K.facts).length aam)]⟩) [12] [3,1,2,4,5,7,8,9,10,11] (LF++(LB++(LA++(LR++(ZT++(L1++(Z1++(L0++(Z++L10))))))))) ⟨_,_,_,_,_,_,_,_,_,_,_,_,rfl,vP (ei hI.2.1) (ei hG.2.1) rfl rfl (ei hJ.2.2) (ei hM.1) (ei hM.2.1) (ei hM.2.2),hM.2.2,fun aD qj hk vf fs hvf=>⟨_,_,_,_,_,_,_,_,_,_,hw,rfl,⟨_,hI.2.1.jW hk.right.right.right.right.right.right.left,by have:=hI.2.2 aD hk.right.right.right.right.right.right.right.left;rwa[List.take_of_length_le (by omega)] at this⟩,⟨_,hG.2.1.jW hk.right.right.right.right.left,by have:=hG.2.2 aD hk.right.right.right.right.right.left;rwa[List.take_of_length_le (by omega)] at this⟩,hJ.2.1 aD qj hk.right.right.right.left,hJ.1,hJ.2.2.jW hk.right.right.left,hM.1.jW hk.left,hM.2.1.jW hk.right.left,hvf⟩,rfl⟩
  refine jd 7 [0,0,0]<|IV [2,6] ⟨fun z15 t16 C2=>?_,fun z18 t19 V0=>?_,trivial⟩
  ·
   refine jc (vs:=[.slice mw K.before.length mo]) [] (gR (show bC _ _ _ _ _ from ⟨mw,O0,OY,mo,rfl,OZ,MS,MQ⟩) (by omega)) ?_
   rintro v73 L73 ⟨_,zf,rfl⟩
   refine eo C2 (zN 1 10)<|zD 1<|IV [5,6] ⟨fun z21 t22 VZ=>?_,fun z24 t25 EE=>?_,trivial⟩
   ·
    refine jc (vs:=[.slice lP K.after.length lG]) [] (gR (show bC _ _ _ _ _ from ⟨lP,Ko,Kl,lG,rfl,Km,Jn,Jm⟩) (by omega)) ?_
    rintro v76 L76 ⟨_,wF,rfl⟩
    refine eo VZ (zN 1 11)<|aS 6 fun Pj PI C1=>jn fun b77=>eo C1 (zN 1 12)<|aS 9 fun Ph PH HG=>iE (sz:=3) (ps:=[]) (qs:=K.facts) (enc:=m8) (w:= .slice gX K.facts.length fT) [0] [] [] (bB (b:=b77) (T:=58)) (fun s he _=>⟨gX,v9,vZ,fT,rfl,qL,fun i p hp=>(qK i p hp).ext he⟩) (fun p _=>ai rfl) (by simp<;>omega) (fun v80 L80 gh=>?_)
    rw[List.nil_append] at gh
    obtain⟨FG,FD,Hw⟩:=gh.form
    subst Hw
    refine gx HG []<|aS 11 (fun Pg PG HF=>?_)
    obtain⟨adV,adN,VG⟩:=zf.form
    subst VG
    refine jd 1 [3]<|fU HF<|zD 1<|aS 13 (fun adn ad9 NT=>?_)
    obtain⟨ata,as0,axk⟩:=wF.form
    subst axk
    refine jd 1 [3]<|fU NT<|zD 1<|aS 15 fun adm ad8 Sc=>jd 1 [3]<|fU Sc<|zD 1<|bE JD ⟨(.slice adV (K.before).length adN),L73,(.slice ata (K.after).length as0),L76,(.slice FG (K.facts).length FD),L80⟩ ⟨zf,wF,gh⟩ Nat.zero_lt_one [3,2,1,0,4,5,6,7,8,9,10,11,12] (Sub.refl _)
   refine jn fun b77=>eo EE (zN 1 11)<|aS 5 fun ap0 aqm VX=>jc (vs:=[.slice lP K.after.length lG]) [] (gR (show bC _ _ _ _ _ from ⟨lP,Ko,Kl,lG,rfl,Km,Jn,Jm⟩) (by omega)) ?_
   rintro v76 L76 ⟨_,wF,rfl⟩
   refine eo VX (zN 1 12)<|aS 9 fun aAw aBv ax4=>iE (sz:=3) (ps:=[]) (qs:=K.facts) (enc:=m8) (w:= .slice gX K.facts.length fT) [1] [] [] (bB (b:=b77) (T:=58)) (fun s he _=>⟨gX,v9,vZ,fT,rfl,qL,fun i p hp=>(qK i p hp).ext he⟩) (fun p _=>ai rfl) (by simp<;>omega) (fun v80 L80 gh=>?_)
   rw[List.nil_append] at gh
   obtain⟨FG,FD,Hw⟩:=gh.form
   subst Hw
   refine gx ax4 []<|aS 11 (fun aAv aBu ax3=>?_)
   obtain⟨yH,yF,VF⟩:=zf.form
   subst VF
   refine jd 1 [3]<|fU ax3<|zD 1<|aS 13 (fun aAu aBt aiE=>?_)
   obtain⟨T3,TX,VE⟩:=wF.form
   subst VE
   refine jd 1 [3]<|fU aiE<|zD 1<|aS 15 fun adl ad7 NS=>jd 1 [3]<|fU NS<|zD 1<|bE JD ⟨(.slice yH (K.before).length yF),L73,(.slice T3 (K.after).length TX),L76,(.slice FG (K.facts).length FD),L80⟩ ⟨zf,wF,gh⟩ Nat.zero_lt_one [3,2,1,0,4,5,6,7,8,9,10,11,12] (Sub.refl _)
  refine jn fun b77=>eo V0 (zN 1 10)<|aS 2 fun adk ad6 VW=>jc (vs:=[.slice mw K.before.length mo]) [] (gR (show bC _ _ _ _ _ from ⟨mw,O0,OY,mo,rfl,OZ,MS,MQ⟩) (by omega)) ?_
  rintro v73 L73 ⟨_,zf,rfl⟩
  refine eo VW (zN 1 11)<|zD 1<|aS 5 fun apZ aql aiD=>jc (vs:=[.slice lP K.after.length lG]) [] (gR (show bC _ _ _ _ _ from ⟨lP,Ko,Kl,lG,rfl,Km,Jn,Jm⟩) (by omega)) ?_
  rintro v76 L76 ⟨_,wF,rfl⟩
  refine eo aiD (zN 1 12)<|aS 9 fun apY aqk aiC=>iE (sz:=3) (ps:=[]) (qs:=K.facts) (enc:=m8) (w:= .slice gX K.facts.length fT) [2] [] [] (bB (b:=b77) (T:=58)) (fun s he _=>⟨gX,v9,vZ,fT,rfl,qL,fun i p hp=>(qK i p hp).ext he⟩) (fun p _=>ai rfl) (by simp<;>omega) (fun v80 L80 gh=>?_)
  rw[List.nil_append] at gh
  obtain⟨FG,FD,Hw⟩:=gh.form
  subst Hw
  refine gx aiC []<|aS 11 (fun aAt aBs ax2=>?_)
  obtain⟨vJ,vI,CY⟩:=zf.form
  subst CY
  refine jd 1 [3]<|fU ax2<|zD 1<|aS 13 (fun aAs aBr aiB=>?_)
  obtain⟨adT,adL,aia⟩:=wF.form
  subst aia
  refine jd 1 [3]<|fU aiB<|zD 1<|aS 15 fun aAr aBq ax1=>jd 1 [3]<|fU ax1<|zD 1<|bE JD ⟨(.slice vJ (K.before).length vI),L73,(.slice adT (K.after).length adL),L76,(.slice FG (K.facts).length FD),L80⟩ ⟨zf,wF,gh⟩ Nat.zero_lt_one [3,2,1,0,4,5,6,7,8,9,10,11,12] (Sub.refl _)
 refine jd 7 [0,7,7]<|IV [3,4] ⟨fun z43 t44 aoJ=>?_,fun z46 t47 ax0=>?_,trivial⟩
 ·
  refine jc [] (ud hO.c8 qo nJ) ?_
  rintro _ WU ⟨Vl,ayU,axS,ayR,axA,_,rfl,Hb,Ha,rfl⟩
  refine eo aoJ (zN 1 8)<|aS 4 fun aAq aBp axZ=>jn fun b64=>eo axZ (zN 1 9)<|aS 7 fun aAp aBo aiA=>iE (sz:=2) (ps:=[]) (qs:=K.rules) (enc:=iG) (w:= .slice kU K.rules.length kT) [0] [] [] (bB (b:=b64) (T:=45)) (fun s he _=>⟨kU,IP,IN,kT,rfl,Gq,fun i p hp=>(Gp i p hp).ext he⟩) (fun p _=>ai rfl) (by simp<;>omega) (fun v67 L67 lS=>?_)
  rw[List.nil_append] at lS
  obtain⟨TZ,TV,VC⟩:=lS.form
  subst VC
  refine gx aiA [[2]]<|aS 9 (fun apX aqj aiz=>?_)
  obtain⟨adS,adK,VD⟩:=hI.2.1.form
  subst VD
  obtain⟨aLI,aLo,axg⟩:=hG.2.1.form
  subst axg
  refine jd 1 [9]<|fU aiz<|zD 1<|aS 11 fun apW aqi aiy=>jd 1 [9]<|fU aiy<|zD 1<|aS 13 fun apU aqh aix=>jd 1 [9]<|fU aix<|zD 1<|bE NX ⟨_,_,_,_,Vl,WU,(.slice TZ (K.rules).length TV),L67⟩ ⟨Hb,Ha,lS⟩ Nat.zero_lt_one [9,0,1,2,3,4,5,6,7,8] (Sub.refl _)
 refine jn fun b64=>eo ax0 (zN 1 8)<|aS 3 fun apT aqg aiw=>jc [] (ud hO.c8 qo nJ) ?_
 rintro _ WU ⟨Vl,ayU,axS,ayR,axA,_,rfl,Hb,Ha,rfl⟩
 refine eo aiw (zN 1 9)<|aS 7 fun apS aqf aiv=>iE (sz:=2) (ps:=[]) (qs:=K.rules) (enc:=iG) (w:= .slice kU K.rules.length kT) [1] [] [] (bB (b:=b64) (T:=45)) (fun s he _=>⟨kU,IP,IN,kT,rfl,Gq,fun i p hp=>(Gp i p hp).ext he⟩) (fun p _=>ai rfl) (by simp<;>omega) (fun v67 L67 lS=>?_)
 rw[List.nil_append] at lS
 obtain⟨TZ,TV,VC⟩:=lS.form
 subst VC
 refine gx aiv [[2]]<|aS 9 (fun apR aqe aiu=>?_)
 obtain⟨al4,al2,ah8⟩:=hI.2.1.form
 subst ah8
 obtain⟨T1,TW,Hx⟩:=hG.2.1.form
 subst Hx
 refine jd 1 [9]<|fU aiu<|zD 1<|aS 11 fun apQ aqd ait=>jd 1 [9]<|fU ait<|zD 1<|aS 13 fun aAo aBn axY=>jd 1 [9]<|fU axY<|zD 1<|bE NX ⟨_,_,_,_,Vl,WU,(.slice TZ (K.rules).length TV),L67⟩ ⟨Hb,Ha,lS⟩ Nat.zero_lt_one [9,0,1,2,3,4,5,6,7,8] (Sub.refl _)
theorem aD3{w:Value}(hK:fF ro l K)(hC:jz K)(hs:bC ro w 1 cm s)(hn:s.length≤100):dE zT 24 [.agg ⟨l⟩,w,.bool b] ro [] (fun r Y=>∃(v0 v1 v3 v4 v5 v6 v7 vb:Value) (fa:Option Addr) (fc:Nat) (LF Z:Cells),r= .agg ⟨[v0,v1,.slice fa 0 fc,v3,v4,v5,v6,v7,zI K.gone,zI K.new,zI K.af,vb]⟩∧aw vb 3 58 m8 (iQ K.facts s b K.facts.length) LF∧(∀aD,Sub ro aD→Knows aD Z→∀(vf:Value) (fs:List bM),bC aD vf 3 m8 fs→fF aD [v0,v1,.slice fa 0 fc,v3,v4,v5,v6,v7,zI K.gone,zI K.new,zI K.af,vf] {K with facts:=fs})∧Y=LF++Z):=by
 have hLa:=hK.L.all
 obtain⟨v0,v1,v3,v4,v5,v6,v7,vb,fa,fc,hv,rfl,_,_,_,_,_,_,_,hf⟩:=id hK
 obtain⟨gX,v9,vZ,fT,rfl,AH,qL,qK⟩:=hf
 obtain⟨lu,Qi,Qg,kB,rfl,Qh,Jl,Jk⟩:=hs
 have vv:=hC.facts.1
 refine zE<|zD 2<|jn fun b3=>jn fun b6=>jd 4 [1]<|jc (vs:=[.agg ⟨[v0,v1,.slice fa 0 fc,v3,v4,v5,v6,v7,zI K.gone,zI K.new,zI K.af,.slice gX K.facts.length fT]⟩]) [] (agN hK hC) ?_
 rintro _ _ ⟨FU,FT,FR,FQ,FP,FO,FN,aBk,FM,FL,aUG,Z10,rfl,Hf,NI,aQD,rfl⟩
 have aEG:=Tg.all (K:=K) ⟨FU,FT,FR,FQ,FP,FO,FN,aBk,FM,FL,rfl,Hf⟩
 refine jg 0 [.l aUG,.l Z10]<|jn (fun b7=>?_)
 obtain⟨va1,vc1,uO⟩:=NI.form
 subst uO
 refine jsx 0 b7 0 zO [FU,FT,.slice FM 0 FL,FR,FQ,FP,FO,FN,zI K.gone,zI K.new,zI K.af,(.slice va1 (K.facts).length vc1)] 40 aEG rfl<|jd 12 [0]<|n8<|dB [1,1,1,0,1,0,0] [] (fun(zz:Nat×Value×Cells)=>[(1,.slice lu s.length kB),(2,.bool b),(3,zP b3),(6,zP b6),(7,zP b7),(8,zI (zz.1:Int))]) (fun zz=>[.l zz.2.2,.b b7 (.cells ⟨[FU,FT,.slice FM 0 FL,FR,FQ,FP,FO,FN,zI K.gone,zI K.new,zI K.af,zz.2.1]⟩ 40 (0,0)),.l Z10,.b b6 (.cells ⟨zO⟩ 40 (0,0)),.b b3 (.cells ⟨[v0,v1,.slice fa 0 fc,v3,v4,v5,v6,v7,zI K.gone,zI K.new,zI K.af,.slice gX K.facts.length fT]⟩ 40 (0,0))]) (fun zz=>zz.1≤K.facts.length∧aw zz.2.1 3 58 m8 (iQ K.facts s b zz.1) zz.2.2) (fun zz=>K.facts.length-zz.1) (⟨0,zS,[]⟩) ⟨Nat.zero_le _,aw.nil _ _ _⟩ [0,1,3,4,5] ?_
 rintro⟨i,vF,LF⟩ hF K1 bF rest
 dsimp only at hF
 have RN:=xC (fs:=K.facts) (s:=s) (b:=b) i
 refine jd 9 [4]<|zJ 16 ((i:Int) <(K.facts.length:Int)) (fun h2=>?_) fun h2=>?_
 ·
  refine zD 8<|jp (vs:=[.slice lu s.length kB,zI (i:Int)]) [] [] (fun aG hs hZ=>agL ((show bC _ _ _ _ _ from ⟨lu,Qi,Qg,kB,rfl,Qh,Jl,Jk⟩).up hs) (by first|omega| (simp only[List.length_set,zM];omega))) ?_
  refine zD 4<|js 24 ((decide ((bR (fun y=>decide (y=(i:Int))) s 0)≥0))==b) (fun h3=>?_) (fun h3=>?_)
  ·
   refine jd 7 [1,4] ?_
   obtain⟨ku,fO⟩:=zG K.facts i
   refine gY fT 3 qL fO<|jl 0 (qK _ _ fO)<|aS 7 fun yD yK ya=>jn fun b32=>eo ya (zN 1 5)<|aS 8 fun oh ov mZ=>iE (sz:=3) (ps:=(iQ K.facts s b i)) (qs:=[(⟨ku.a,ku.b,ku.same⟩:bM)]) (enc:=m8) (w:= .slice (some ⟨b32,0,none⟩) 1 1) [1] [0] [(b32,.cells ⟨([(⟨ku.a,ku.b,ku.same⟩:bM)].map m8).flatten⟩ 58 (0,0))] (hF.2) (fun s _ hZ=>bN [(⟨ku.a,ku.b,ku.same⟩:bM)] (hZ _ (.head _)) (by intro p hp;rfl)) (fun p _=>ai rfl) (by simp only[List.length_cons,List.length_nil];omega) (fun v33 L33 Hn=>?_)
   obtain⟨as9,asZ,axj⟩:=Hn.form
   subst axj
   refine gx mZ [[5]]<|zD 1<|aS 10 fun pX p6 oZ=>jd 1 [2]<|fU oZ<|zD 3<|ja ((i:Int)+1) (by omega)<|zD 2<|bE bF (⟨i+1,(.slice as9 (((iQ K.facts s b i)++[(⟨ku.a,ku.b,ku.same⟩:bM)])).length asZ),L33⟩) ⟨by dsimp only;omega,by dsimp only;rw[Yv (s:=s) (b:=b) fO (by assumption)];exact Hn⟩ (by dsimp only;omega) [0,2,3,4,5] (Sub.refl _)
  obtain⟨x0,Ew⟩:∃x,K.facts[i]?=some x:=⟨_,List.getElem?_eq_getElem (by omega)⟩
  refine zD 4<|ja ((i:Int)+1) (by omega)<|zD 2<|bE bF (⟨i+1,vF,LF⟩) ⟨by dsimp only;omega,by dsimp only;rw[Yw (s:=s) (b:=b) Ew (by assumption)];exact hF.2⟩ (by dsimp only;omega) (zN 0 5) (Sub.refl _)
 refine zD 3 ?_
 have aPu:=Tg.all (K:=K) ⟨FU,FT,FR,FQ,FP,FO,FN,vF,FM,FL,rfl,vP (Hf _ (by simp)) (Hf _ (by simp)) (Hf _ (by simp)) (Hf _ (by simp)) (Hf _ (by simp)) (Hf _ (by simp)) (Hf _ (by simp)) (ei hF.2)⟩
 refine jd 2 [1] ?_
 obtain⟨OU,OT,NM⟩:=hF.2.form
 subst NM
 refine jsx 3 b6 0 zO [FU,FT,.slice FM 0 FL,FR,FQ,FP,FO,FN,zI K.gone,zI K.new,zI K.af,(.slice OU ((iQ K.facts s b i)).length OT)] 40 aPu rfl<|zD 2<|zR (.agg ⟨[FU,FT,.slice FM 0 FL,FR,FQ,FP,FO,FN,zI K.gone,zI K.new,zI K.af,(.slice OU ((iQ K.facts s b i)).length OT)]⟩) [0] [1,3] (LF++Z10) ⟨FU,FT,FR,FQ,FP,FO,FN,_,FM,FL,_,Z10,rfl,(by have hil:i=K.facts.length:=(by omega);subst hil;exact hF.2),aQD,rfl⟩
end Go.L
