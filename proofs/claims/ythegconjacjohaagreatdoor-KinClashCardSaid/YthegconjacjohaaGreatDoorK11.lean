/- Part 11 of the proof. -/
import Derived.Test.YthegconjacjohaaGreatDoorK10
set_option maxRecDepth 100000
set_option linter.all false
namespace Go.L
open Go Go.Conc Go.Proofs
variable {ro:Nat→Option Obj} {l z z1:List Value} {K:aC} {i ck q f k bE sz r dep by1 fc:Nat} {n x y j:Int} {T R:Nat→Nat→Int} {s ys xs zs:List Int} {κ α β:Type} {fs:List bM} {seen:List Nat} {b ag:Bool} {P:Program} {v0 v1 v3 v5 v6 v7 vb:Value}
def ale[DecidableEq κ](r:Nat)(kv:κ→Value)(k:κ)(F:List (κ×Value))(b:Nat)(L:Cells):Prop:=
 ∃es ck i u,L=[(r,.map es ck)]∧tF kv F es ck∧sH k F 0=some (i,u)∧(es.toList.map (·.born))[i]?=some b
theorem ale.own[DecidableEq κ]{kv:κ→Value}{k:κ}{F:List (κ×Value)}{b:Nat}{L:Cells}(h:ale r kv k F b L):jU r kv F L:=by
 obtain⟨es,ck,_,_,h1,h2,_⟩:=h
 exact⟨es,ck,h1,h2⟩
def meV(P:Program)(n:Nat)(p:Oper)(e:Env):Option (TypeId×TypeId×Value×Value):=match p.op with
 | .mapEntry T x y=>match ba P T with
  |some ⟨.map K E,_,_,_⟩=>match bp n e x with
   |some m=>match bp n e y with
    |some k=>some (K,E,m,k)
    |none=>none
   |none=>none
  |_=>none
 |_=>none
def esV(n:Nat)(p:Oper)(e:Env):Option (Value×Value×Value):=match p.op with
 | .entryStore _ x y z=>match bp n e x with
  |some m=>match bp n e y with
   |some b=>match bp n e z with
    |some v=>some (m,b,v)
    |none=>none
   |none=>none
  |none=>none
 |_=>none
theorem Bj[DecidableEq κ]{k:κ}{v:Value}:∀ {F:List (κ×Value)} {i:Nat},sH k F i=none→sH k (F++[(k,v)]) i=some (i+F.length,v)
 | [],i,_=>by simp[sH]
 |x::l,i,h=>by
  simp only[sH] at h
  split at h
  ·cases h
  rename_i hk
  rw[List.cons_append,sH,if_neg hk,Bj h,List.length_cons,show i+1+l.length=i+(l.length+1) by omega]
theorem Yt{kv:κ→Value}{k:κ}{v:Value}:∀(es:List MapEntry) (F:List (κ×Value)) (i:Nat) {u:Value},F[i]?=some (k,u)→es.map (fun e=>(e.key,e.val))=F.map (fun x=>(kv x.1,x.2))→(es.modify i fun e=>{e with val:=v}).map (fun e=>(e.key,e.val))=(tP k v F i).map (fun x=>(kv x.1,x.2))
 | [],[],_,_,h,_=>by simp at h
 | [],_::_,_,_,_,h=>by simp at h
 |_::_,[],_,_,_,h=>by simp at h
 |e::es,x::F,0,_,h1,h=>by
  simp only[List.map_cons,List.cons.injEq,Prod.mk.injEq] at h
  simp at h1;subst h1
  simp[tP,h.2,h.1.1]
 |e::es,x::F,i+1,_,h1,h=>by
  simp only[List.map_cons,List.cons.injEq] at h
  simp at h1
  simp[tP,h.1,Yt es F i h1 h.2]
theorem ID{v:Value}:∀(es:List MapEntry) (i:Nat),(es.modify i fun e=>{e with val:=v}).map (·.born)=es.map (·.born)
 | [],i=>by simp
 |e::es,0=>by simp
 |e::es,i+1=>by simp[ID es i]
theorem BC{kx:Value}:∀(es:List MapEntry) (i:Nat),(es.modify i fun e=>{e with key:=kx}).map (·.born)=es.map (·.born)
 | [],i=>by simp
 |e::es,0=>by simp
 |e::es,i+1=>by simp[BC es i]
theorem Yu{kv:κ→Value}{k:κ}:∀(es:List MapEntry) (F:List (κ×Value)) (i:Nat) {u:Value},F[i]?=some (k,u)→es.map (fun e=>(e.key,e.val))=F.map (fun x=>(kv x.1,x.2))→(es.modify i fun e=>{e with key:=kv k}).map (fun e=>(e.key,e.val))=F.map (fun x=>(kv x.1,x.2))
 | [],[],_,_,h,_=>by simp at h
 | [],_::_,_,_,_,h=>by simp at h
 |_::_,[],_,_,_,h=>by simp at h
 |e::es,x::F,0,_,h1,h=>by
  simp only[List.map_cons,List.cons.injEq,Prod.mk.injEq] at h
  simp at h1;subst h1
  simp[h.2,h.1.2]
 |e::es,x::F,i+1,_,h1,h=>by
  simp only[List.map_cons,List.cons.injEq] at h
  simp at h1
  simp[h.1,Yu es F i h1 h.2]
theorem ZY{es dZ:Array MapEntry}(h:∀e∈es.toList,e.born <ck)(hb:dZ.toList.map (·.born)=es.toList.map (·.born)):∀e∈dZ.toList,e.born <ck:=fun e he=>by
 have:e.born∈dZ.toList.map (·.born):=List.mem_map_of_mem he
 rw[hb] at this
 obtain⟨e2,h3,h4⟩:=List.mem_map.1 this
 rw[←h4];exact h e2 h3
section
variable {X:Cx} {o:Option JS}
theorem jSk{f:Oper→Env→Option β}{r:β}{Φ:Cells→Prop}(ps:List Nat)(B:Cells)(hv:eT X.n f o=some r)(hB:dN ps o=some B)
 (hy:∀p e,f p e=some r→(∀c,p.op≠ .defer c)∧∀(R:Cells) (Q:Next→St→Prop) (E:Halt→St→Prop),(∀L',Φ L'→Q .skip ⟨X.ro,L'++R⟩)→bO X.P (execOp (ev X.n e) p) ⟨X.ro,B++R⟩ Q E)
 (hj:∀L',Φ L'→J X (mZ ps undef L' o)):J X o:=by
 obtain⟨ops,i,todo,k,e,w,kn,p,rfl,ho,hw,hc⟩:=dB hv
 intro bY
 have hp:=bJ hB
 obtain⟨hd,ht⟩:=hy p e hc
 have:ab X.C X.fn X.aA ops (i::todo) (KQ X k) (A X.n e X.D) ⟨X.ro,B++den (dE ps 0 w)⟩:=by
  refine bR X.hC ho hw hd<|ht _ _ _ fun L' pG=>?_
  have:=hj L' pG
  rw[od ho] at this
  have:=this bY
  simp only[JP,gq] at this
  show ab _ _ _ _ _ _ _ _
  rw[←aX] at this
  exact this
 have hle:(⟨X.ro,B++den (dE ps 0 w)⟩:St).le ⟨X.ro,den w⟩:=⟨[],by rw[List.append_nil];exact hp,fun b o hb=> .inl hb⟩
 exact this.more X.hC hle
theorem jme[DecidableEq κ]{kv:κ→Value}{F:List (κ×Value)}{K E:TypeId}{L:Cells}{d:TypeDesc}(i:Nat)(k:κ)(hk:Tv X.P K kv)(te:TF X.P E d sz bE z ag)(hm:jU r kv F L)
 (hj:∀F1 b c L',(((∃u,sH k F 0=some u)∧F1=F)∨(sH k F 0=none∧F1=F++[(k,Pr z ag)]))→ale r kv k F1 b L'→J X (mZ [i] (.tuple ⟨[c,zI (b:Int)]⟩) L' o))
 (hv:eT X.n (meV X.P X.n) o=some (K,E,.map (some r),kv k):=by kernel_rfl)(hB:dN [i] o=some L:=by kernel_rfl):J X o:=by
 refine jS (Φ:=fun v L'=>∃F1 b c,(((∃u,sH k F 0=some u)∧F1=F)∨(sH k F 0=none∧F1=F++[(k,Pr z ag)]))∧ale r kv k F1 b L'∧v= .tuple ⟨[c,zI (b:Int)]⟩) [i] _ hv hB (fun p e hf=>?_) (fun v L' pG=>?_)
 ·unfold meV at hf
  split at hf<;>try (cases hf;done)
  rename_i T x y az
  split at hf<;>try (cases hf;done)
  rename_i K' E' _ _ _ dM
  split at hf<;>try (cases hf;done)
  rename_i m hx
  split at hf<;>try (cases hf;done)
  rename_i k' hy
  simp only[Option.some.injEq,Prod.mk.injEq] at hf
  obtain⟨rfl,rfl,rfl,rfl⟩:=hf
  obtain⟨bfC,tf⟩:=av dM
  refine⟨by rw[az];simp,fun R Q E hQ=>?_⟩
  obtain⟨es,ck,rfl,CY⟩:=hm
  simp only[execOp,az,Instr.mapEntry,aa,a8 tf,aF hx,aF hy]
  refine cG (.inr (List.mem_append_left _ List.mem_cons_self)) rfl rfl ?_
  simp only[aa]
  refine hk.chk _ _ ?_
  simp only[aa]
  refine hk.find k _ F CY.1 ?_
  cases x5:sH k F 0 with
  |some u=>
   obtain⟨j,u⟩:=u
   have TP:=qB x5
   simp only[Nat.sub_zero] at TP
   have h1:(es.toList.map (fun e=>(e.key,e.val)))[j]?=some (kv k,u):=by rw[CY.1];simp[TP.2]
   simp only[List.getElem?_map,Array.getElem?_toList] at h1
   cases he:es[j]? with
   |none=>rw[he] at h1;cases h1
   |some e1=>
    rw[he] at h1
    simp only[Option.map_some,Option.some.injEq,Prod.mk.injEq] at h1
    simp only[aa,Instr.keyThatStays,he,Option.map_some,Option.getD_some,h1.1,hk.stay,if_true,ae]
    refine ei (L:=[]) rfl rfl rfl ?_
    simp only[ae]
    refine hQ _ [(r,_)] ⟨F,e1.born,u,.inl ⟨⟨_,x5⟩,rfl⟩,⟨_,_,j,u,rfl,⟨?_,?_,?_⟩,x5,?_⟩,rfl⟩
    ·rw[Array.toList_modify];exact Yu _ _ _ TP.2 CY.1
    ·rw[Array.toList_modify,BC];exact CY.2.1
    ·exact ZY CY.2.2 (by rw[Array.toList_modify,BC])
    rw[Array.toList_modify,BC,List.getElem?_map,Array.getElem?_toList,he];rfl
  |none=>
   simp only[aa,jZ te]
   refine ei (L:=[]) rfl rfl rfl ?_
   simp only[ae]
   have hlen:es.toList.length=F.length:=by have:=congrArg List.length CY.1;simpa using this
   refine hQ _ [(r,_)] ⟨_,ck,_,.inr ⟨x5,rfl⟩,⟨_,_,F.length,_,rfl,⟨?_,?_,?_⟩,by have:=Bj (v:=Pr z ag) x5;rwa[Nat.zero_add] at this,?_⟩,rfl⟩
   ·simp only[Array.toList_push,List.map_append,CY.1];rfl
   ·simp only[Array.toList_push,List.map_append,List.map_cons,List.map_nil]
    refine List.nodup_append.2 ⟨CY.2.1,by simp,?_⟩
    intro a ha b hb
    obtain⟨e2,h3,rfl⟩:=List.mem_map.1 ha
    have:=CY.2.2 e2 h3
    simp only[List.mem_singleton] at hb
    omega
   ·intro e1 h1
    simp only[Array.toList_push,List.mem_append,List.mem_singleton] at h1
    rcases h1 with h1|rfl
    ·have:=CY.2.2 e1 h1;omega
    exact Nat.lt_succ_self _
   simp only[Array.toList_push,List.map_append,List.map_cons,List.map_nil]
   rw[List.getElem?_append_right (by simp[hlen])]
   simp[hlen]
 obtain⟨F1,b,c,h1,h2,rfl⟩:=pG
 exact hj F1 b c L' h1 h2
theorem jes[DecidableEq κ]{kv:κ→Value}{F:List (κ×Value)}{b:Nat}{L:Cells}{k:κ}(i:Nat)(v:Value)(hm:ale r kv k F b L)(hj:∀L',jU r kv (mi k v F) L'→J X (mZ [i] undef L' o))
 (hv:eT X.n (esV X.n) o=some (.map (some r),zI (b:Int),v):=by kernel_rfl)(hB:dN [i] o=some L:=by kernel_rfl):J X o:=by
 refine jSk (Φ:=jU r kv (mi k v F)) [i] _ hv hB (fun p e hf=>?_) hj
 unfold esV at hf
 split at hf<;>try (cases hf;done)
 rename_i T x y zz az
 split at hf<;>try (cases hf;done)
 rename_i m hx
 split at hf<;>try (cases hf;done)
 rename_i b' hy
 split at hf<;>try (cases hf;done)
 rename_i v' hz
 simp only[Option.some.injEq,Prod.mk.injEq] at hf
 obtain⟨rfl,rfl,rfl⟩:=hf
 refine⟨by rw[az];simp,fun R Q E hQ=>?_⟩
 obtain⟨es,ck,j,u,rfl,CY,x5,hb⟩:=hm
 have TP:=qB x5
 simp only[Nat.sub_zero] at TP
 simp only[execOp,az,Instr.entryStore,aa,aF hx,aF hy,aF hz]
 refine cG (.inr (List.mem_append_left _ List.mem_cons_self)) rfl rfl ?_
 have aR2:es.findIdx? (fun e=>(e.born:Int)==(b:Int))=some j:=by
  rw[List.getElem?_map,Array.getElem?_toList] at hb
  obtain⟨e1,he,rfl⟩:=Option.map_eq_some_iff.1 hb
  obtain⟨h1,h2⟩:=Array.getElem?_eq_some_iff.1 he
  refine Array.findIdx?_eq_some_iff_getElem.2 ⟨h1,by simp[h2],fun q hq=>?_⟩
  have mb:=CY.2.1
  have:=List.pairwise_iff_getElem.1 mb q j (by simp;omega) (by simp;omega) hq
  simp only[List.getElem_map,Array.getElem_toList,h2] at this
  simp only[beq_iff_eq]
  omega
 simp only[aa,asInt,asIntOf,ae,aR2]
 refine ei (L:=[]) rfl rfl rfl ?_
 show Q .skip _
 refine hQ [(r,_)] ⟨_,_,rfl,?_,?_,?_⟩
 ·rw[Array.toList_modify,mi,x5];exact Yt _ _ _ TP.2 CY.1
 ·rw[Array.toList_modify,ID];exact CY.2.1
 exact ZY CY.2.2 (by rw[Array.toList_modify,ID])
end
abbrev v4(a b c d:Int):Value:= .agg ⟨[zI a,zI b,zI c,zI d]⟩
theorem aIk{T:TypeId}(tf:TF P T (.array 4 3) sz bE z ag)(t3:TF P 3 (.int .i64) 1 by1 z1 false)(a b c d a' b' c' d':Int):
 EqD P (dep+2) T (v4 a b c d) (v4 a' b' c' d') (a==a'&&(b==b'&&(c==c'&&(d==d'&&true)))):=by
 intro α s k Q E
 rw[Op.equalIn]
 simp only[aa,a8 tf,cu t3]
 simp only[Std.Legacy.Range.forIn_eq_forIn_range',Std.Legacy.Range.size,Nat.sub_zero,Nat.add_sub_cancel,Nat.div_one,List.range'_succ,List.range'_zero,List.forIn_cons,List.forIn_nil,aa,Nat.zero_add,Nat.mul_one]
 have p (l:List Value) (o:Nat) (v:Value) (h:nth l o=some v):IV P 3 l o v:=j8 t3 h
 rw[p _ 0 (zI a) rfl];simp only[aa]
 rw[p _ 0 (zI a') rfl];simp only[aa]
 rw[n9 t3 a a']
 cases ha:a==a' with
 |false=>simp only[Bool.not_false,if_true,ae,aa,Bool.false_and]
 |true=>
 simp only[Bool.not_true,Bool.false_eq_true,if_false,ae,Bool.true_and,aa]
 rw[p _ 1 (zI b) rfl];simp only[aa]
 rw[p _ 1 (zI b') rfl];simp only[aa]
 rw[n9 t3 b b']
 cases hb:b==b' with
 |false=>simp only[Bool.not_false,if_true,ae,aa,Bool.false_and]
 |true=>
 simp only[Bool.not_true,Bool.false_eq_true,if_false,ae,Bool.true_and,aa]
 rw[p _ 2 (zI c) rfl];simp only[aa]
 rw[p _ 2 (zI c') rfl];simp only[aa]
 rw[n9 t3 c c']
 cases hc:c==c' with
 |false=>simp only[Bool.not_false,if_true,ae,aa,Bool.false_and]
 |true=>
 simp only[Bool.not_true,Bool.false_eq_true,if_false,ae,Bool.true_and,aa]
 rw[p _ 3 (zI d) rfl];simp only[aa]
 rw[p _ 3 (zI d') rfl];simp only[aa]
 rw[n9 t3 d d']
 cases hd:d==d' with
 |false=>simp only[Bool.not_false,if_true,ae,aa,Bool.false_and]
 |true=>simp only[Bool.not_true,Bool.false_eq_true,if_false,ae,Bool.true_and,aa]
theorem ck4{T:TypeId}(tf:TF P T (.array 4 3) sz bE z ag)(t3:TF P 3 (.int .i64) 1 by1 z1 false)(a b c d:Int):CkD P (dep+2) T (v4 a b c d):=by
 intro bb α K s Q E
 rw[Instr.checkKey]
 simp only[aa,a8 tf]
 simp only[Std.Legacy.Range.forIn_eq_forIn_range',Std.Legacy.Range.size,Nat.sub_zero,Nat.add_sub_cancel,Nat.div_one,List.range'_succ,List.range'_zero,List.forIn_cons,List.forIn_nil,aa,Nat.zero_add,cu t3,Nat.zero_mul,Nat.mul_one]
 have p (l:List Value) (o:Nat) (v:Value) (h:nth l o=some v):IV P 3 l o v:=j8 t3 h
 rw[p _ 0 (zI a) rfl];simp only[aa];rw[Ir t3 a bb];simp only[ae,aa,cu t3,Nat.mul_one]
 rw[p _ 1 (zI b) rfl];simp only[aa];rw[Ir t3 b bb];simp only[ae,aa,cu t3,Nat.mul_one]
 rw[p _ 2 (zI c) rfl];simp only[aa];rw[Ir t3 c bb];simp only[ae,aa,cu t3,Nat.mul_one]
 rw[p _ 3 (zI d) rfl];simp only[aa];rw[Ir t3 d bb];simp only[ae,aa]
abbrev P4:=Int×Int×Int×Int
abbrev I3(x:P4):Value:=v4 x.1 x.2.1 x.2.2.1 x.2.2.2
theorem agJ:Tv zT 136 I3:=agI (m9 Tryz.typeInfo136 Tryz.underlying136 rfl rfl rfl rfl rfl rfl) (fun k=>⟨_,rfl⟩)
 (fun k=>ck4 (dep:=9998) (m9 Tryz.typeInfo136 Tryz.underlying136 rfl rfl rfl rfl rfl rfl) mz _ _ _ _)
 (fun a b=>by
  have h:=aIk (dep:=9998) (m9 Tryz.typeInfo136 Tryz.underlying136 rfl rfl rfl rfl rfl rfl) mz a.1 a.2.1 a.2.2.1 a.2.2.2 b.1 b.2.1 b.2.2.1 b.2.2.2
  have e:(a.1==b.1&&(a.2.1==b.2.1&&(a.2.2.1==b.2.2.1&&(a.2.2.2==b.2.2.2&&true))))=decide (a=b):=by
   rcases a with ⟨x,y,z,t⟩;rcases b with ⟨u,v,w,r⟩
   rw[Bool.eq_iff_iff];simp
  rwa[e] at h)
 (fun k=>by simp[Instr.sameBits])
structure eZ where
 c:Nat→Nat→Int
abbrev zq(m:eZ):List Value:=[zI (m.c 0 0),zI (m.c 0 1),zI (m.c 0 2),zI (m.c 0 3),zI (m.c 1 0),zI (m.c 1 1),zI (m.c 1 2),zI (m.c 1 3),zI (m.c 2 0),zI (m.c 2 1),zI (m.c 2 2),zI (m.c 2 3),zI (m.c 3 0),zI (m.c 3 1),zI (m.c 3 2),zI (m.c 3 3)]
theorem AY{m:eZ}{a b:Nat}(h:a <4)(k:b <4):nth (zq m) (0+(a:Int).toNat*4+(b:Int).toNat*1)=some (zI (m.c a b)):=by
 rcases A0 h with rfl|rfl|rfl|rfl<;>rcases A0 k with rfl|rfl|rfl|rfl<;>rfl
def rP(m:eZ)(a b:Nat)(v:Int):eZ:=⟨fun i j=>if i=a∧j=b then v else m.c i j⟩
theorem anB{m:eZ}{a b:Nat}{v:Int}(h:a <4)(k:b <4):dD (zq m) (0+(a:Int).toNat*4+(b:Int).toNat*1) [zI v]=zq (rP m a b v):=by
 rcases A0 h with rfl|rfl|rfl|rfl<;>rcases A0 k with rfl|rfl|rfl|rfl<;>rfl
theorem anC{m:eZ}{a b:Nat}{v:Value}(h:a <4)(k:b <4):Nat.ble ((0+(a:Int).toNat*4+(b:Int).toNat*1)+[v].length) (zq m).length=true:=by
 rcases A0 h with rfl|rfl|rfl|rfl<;>rcases A0 k with rfl|rfl|rfl|rfl<;>rfl
def pI(x:aj):Nat→Int
 |0=>x.w0
 |1=>x.w1
 |2=>x.w2
 |_=>x.w3
def ax(zs:List aj):eZ:=⟨fun i j=>((zs.filter fun x=>decide (pI x i=(j:Int)+1)).length:Int)⟩
theorem Dk(zs:List aj)(i j:Nat):0≤(ax zs).c i j∧(ax zs).c i j≤zs.length:=by
 have:=List.length_filter_le (fun x=>decide (pI x i=(j:Int)+1)) zs
 simp only[ax];omega
theorem Bw{zs ys:List aj}(h:zs.Perm ys):ax zs=ax ys:=by
 simp only[ax,(h.filter _).length_eq]
theorem Fo{r:bD}{p:Nat→Int}(hp:∀i,0≤p i∧p i≤4)(q:Nat):0≤pI (cv K r i p) q∧pI (cv K r i p) q≤4:=match q with
 |0=>hp 0
 |1=>hp 1
 |2=>hp 2
 |_+3=>hp 3
def qO:Prop:=∀ {ro:Nat→Option Obj} {v:Value} {zs:List aj},bB ro v 8 cR zs→zs.length≤100000→(∀x∈zs,∀q,0≤pI x q∧pI x q≤4)→dG zT 80 [v] ro [] (fun r Y=>r= .agg ⟨zq (ax zs)⟩∧Y=[])
def mG(m:eZ)(n:Int)(i:Nat):Nat→List (List Int)
 |0=>[]
 |j+1=>mG m n i j++(bif decide (m.c i j=n) then [[(i:Int),(j:Int)]] else [])
def pw(m:eZ)(n:Int)(w:Nat):Nat→List (List Int)
 |0=>[]
 |i+1=>pw m n w i++mG m n i w
theorem Yo{m:eZ}{j:Nat}(h:m.c i j=n):mG m n i (j+1)=mG m n i j++[[(i:Int),(j:Int)]]:=by rw[mG,decide_eq_true h];rfl
theorem Yp{m:eZ}{j:Nat}(h:¬m.c i j=n):mG m n i (j+1)=mG m n i j:=by rw[mG,decide_eq_false h];exact List.append_nil _
theorem Cr(m:eZ)(n:Int)(i:Nat):∀j,(mG m n i j).length≤j
 |0=>Nat.le_refl _
 |j+1=>by have:=Cr m n i j;rw[mG,List.length_append];cases decide (m.c i j=n)<;>simp<;>omega
theorem Le(m:eZ)(n:Int){w:Nat}(hw:w≤4):∀i,(pw m n w i).length≤4*i
 |0=>Nat.le_refl _
 |i+1=>by have:=Le m n hw i;have:=Cr m n i w;rw[pw,List.length_append];omega
theorem an0{rows:List bD}(hK:fx ro l K)(hV:ee K)(hR:rows.length≤2)(hB:gN ro l K rows)(hCt:qO):Ae zT 63 [.agg ⟨l⟩,.func (.func 106) ⟨[]⟩ ⟨[]⟩] ro [] (fun r Y=>∃zs v e,zs.Perm (cU K (aP K) (cz K.gone K.new K.af) rows)∧r= .tuple ⟨[v,zI e]⟩∧((zs=[]∧v= zS∧e=9∧Y=[])∨(zs≠[]∧e=0∧∀aD,Knows aD Y→LL aD v (pw (ax zs) ((zs.length:Nat):Int) K.after.length K.before.length)))):=by
 obtain⟨v0,v1,v3,v4,v5,v6,v7,vb,fa,fc,hv,rfl,_⟩:=id hK
 refine CJ ar [] [] aW fun fr=>zD 2<|jn fun b2=>jd 6 [0]<|aob (vs:=[.agg ⟨[v0,v1,.slice fa 0 fc,v3,v4,v5,v6,v7,zI K.gone,zI K.new,zI K.af,vb]⟩]) [] (fun _ _ h=>h) (YM hK hV hR hB) ?_
 rintro _ aG Y15 bZ ⟨f15,zs,v15,e15,rfl,Ao,hz,ahY,he⟩
 have RL:∀x∈zs,(-4≤x.gone∧x.gone≤4)∧(-4≤x.new∧x.new≤4)∧(0≤x.af∧x.af≤4):=fun x hx=>by obtain⟨i,r,p,_,_,rfl,_⟩:=fN (hz.mem_iff.1 hx);exact nG hV r i p
 have hzl:zs.length≤1250:=by rw[hz.length_eq];exact oM hV _ _ hR
 have hpr:∀x∈zs,∀q,0≤pI x q∧pI x q≤4:=fun x hx=>by obtain⟨i,r,p,_,hp,rfl,_⟩:=fN (hz.mem_iff.1 hx);exact Fo ((iR hV _).2 p hp)
 obtain⟨d0,d1,d2,d3,d4,d5,d6,d7,d8,d9,dh,hf,pY,nn,hr,C3,HR,JU,bW⟩:=id Ao
 obtain⟨kI,Jy,Jw,jP,rfl,Jx,Ez,Ey⟩:=C3
 obtain⟨kJ,JB,Jz,jQ,rfl,JA,EB,EA⟩:=HR
 have CX:=hV.before.1
 have Fu:=hV.after.1
 refine zD 7<|jf [0] Y15 (fun ro4 oO Zm=>?_)
 have hZ1:=ahY.jF Zm
 obtain⟨rY,Nc,Na,qi,rfl,Nb,GG,GF⟩:=hZ1
 refine zD 7<|js 20 (!decide (e15=0)) (fun h5=>?_) (fun h5=>?_)
 ·
  replace h5:=of_decide_eq_false (by simpa using h5)
  have su:zs=[]∧e15=9:=by rcases he with h| ⟨_,h⟩;exact h;omega
  refine zD 8<|O9 qC.a.a (.tuple ⟨[zS,zI e15]⟩) [1] [] (bZ.trans oO) ⟨zs,_,_,hz,rfl,.inl ⟨su.1,rfl,su.2,rfl⟩⟩
 replace h5:=of_decide_eq_true (by simpa using h5)
 have su:zs≠[]∧e15=0:=by rcases he with ⟨_,h⟩|h;omega;exact h
 refine zD 9<|jc (vs:=[.slice rY zs.length qi]) [] (hCt (show bB _ _ _ _ _ from ⟨rY,Nc,Na,qi,rfl,Nb,GG,GF⟩) (by omega) hpr) ?_
 rintro _ _ ⟨rfl,rfl⟩
 refine jg 0 []<|jn fun pf=>jd 9 [0]<|jl (b:=f15) (off:=0) (m:=13) (vs:=[d0,d1,d2,d3,d4,d5,.slice kI K.before.length jP,.slice kJ K.after.length jQ,zI K.gone,zI K.new,zI K.af,d8,d9]) 6 ⟨_,_,_,.inl (oO _ _ hf),rfl⟩<|zD 4<|nI<|nI<|dw [1,1,1,1,1,0,1,0,0] [] (fun(zz:Nat×Value×Cells×(List Value)×Cells)=>[(1,.func (.func 106) ⟨[]⟩ ⟨[]⟩),(4,zS),(5,zI 0),(6,zP f15),(7,.slice rY zs.length qi),(9,zz.2.1),(10,zP pf),(29,zI (K.before.length:Int)),(30,zI (zz.1:Int))]) (fun zz=>[.l zz.2.2.1,.l zz.2.2.2.2,.b pf (.cells ⟨[zI ((ax zs).c 0 0),zI ((ax zs).c 0 1),zI ((ax zs).c 0 2),zI ((ax zs).c 0 3),zI ((ax zs).c 1 0),zI ((ax zs).c 1 1),zI ((ax zs).c 1 2),zI ((ax zs).c 1 3),zI ((ax zs).c 2 0),zI ((ax zs).c 2 1),zI ((ax zs).c 2 2),zI ((ax zs).c 2 3),zI ((ax zs).c 3 0),zI ((ax zs).c 3 1),zI ((ax zs).c 3 2),zI ((ax zs).c 3 3)]⟩ 158 (0,0)),.b b2 (.cells ⟨[v0,v1,.slice fa 0 fc,v3,v4,v5,v6,v7,zI K.gone,zI K.new,zI K.af,vb]⟩ 38 (0,0)),.l fr]) (fun zz=>(zz.1≤K.before.length∧zz.2.2.2.1.length=(pw (ax zs) ((zs.length:Nat):Int) K.after.length zz.1).length)∧aw zz.2.1 1 22 fw zz.2.2.2.1 zz.2.2.1∧∀aD,Knows aD zz.2.2.2.2→de (fun w l=>bB aD w 1 cy l) zz.2.2.2.1 (pw (ax zs) ((zs.length:Nat):Int) K.after.length zz.1)) (fun zz=>K.before.length-zz.1) (⟨0,zS,[],[],[]⟩) ⟨⟨by dsimp only;omega,rfl⟩,aw.nil _ _ _,fun _ _=> .nil⟩ [1,0,2,3,4] ?_
 rintro⟨i,vO,LO,es,Z⟩ hI K1 bG rest
 dsimp only at hI
 have hil:=Le (ax zs) ((zs.length:Nat):Int) (w:=K.after.length) (by omega) i
 refine zD 5<|zJ 31 ((i:Int) <(K.before.length:Int)) (fun h6=>?_) fun h6=>?_
 ·
  refine zD 15<|jl (b:=f15) (off:=0) (m:=13) (vs:=[d0,d1,d2,d3,d4,d5,.slice kI K.before.length jP,.slice kJ K.after.length jQ,zI K.gone,zI K.new,zI K.af,d8,d9]) 7 ⟨_,_,_,.inl (oO _ _ hf),rfl⟩<|zD 4<|dw [1,1,1,1,1,0,1,0,0,1,1,0,0,1,1,0,0] [K1] (fun(zz:Nat×Value×Cells×(List Value)×Cells)=>[(1,.func (.func 106) ⟨[]⟩ ⟨[]⟩),(4,zS),(5,zI 0),(6,zP f15),(7,.slice rY zs.length qi),(9,zz.2.1),(10,zP pf),(11,zI (i:Int)),(29,zI (K.before.length:Int)),(30,zI (i:Int)),(38,zI (K.after.length:Int)),(39,zI (zz.1:Int))]) (fun zz=>[.l zz.2.2.1,.l zz.2.2.2.2,.b pf (.cells ⟨[zI ((ax zs).c 0 0),zI ((ax zs).c 0 1),zI ((ax zs).c 0 2),zI ((ax zs).c 0 3),zI ((ax zs).c 1 0),zI ((ax zs).c 1 1),zI ((ax zs).c 1 2),zI ((ax zs).c 1 3),zI ((ax zs).c 2 0),zI ((ax zs).c 2 1),zI ((ax zs).c 2 2),zI ((ax zs).c 2 3),zI ((ax zs).c 3 0),zI ((ax zs).c 3 1),zI ((ax zs).c 3 2),zI ((ax zs).c 3 3)]⟩ 158 (0,0)),.b b2 (.cells ⟨[v0,v1,.slice fa 0 fc,v3,v4,v5,v6,v7,zI K.gone,zI K.new,zI K.af,vb]⟩ 38 (0,0)),.l fr]) (fun zz=>(zz.1≤K.after.length∧zz.2.2.2.1.length=((pw (ax zs) ((zs.length:Nat):Int) K.after.length i)++(mG (ax zs) ((zs.length:Nat):Int) i zz.1)).length)∧aw zz.2.1 1 22 fw zz.2.2.2.1 zz.2.2.1∧∀aD,Knows aD zz.2.2.2.2→de (fun w l=>bB aD w 1 cy l) zz.2.2.2.1 ((pw (ax zs) ((zs.length:Nat):Int) K.after.length i)++(mG (ax zs) ((zs.length:Nat):Int) i zz.1))) (fun zz=>K.after.length-zz.1) (⟨0,vO,LO,es,Z⟩) ⟨⟨by dsimp only;omega,by simpa [mG] using hI.1.2⟩,hI.2.1,by simpa [mG] using hI.2.2⟩ (zN 0 5) ?_
  rintro⟨j,vO,LO,es,Z⟩ hJ K2 jV rest
  dsimp only at hJ
  have hjl:=Cr (ax zs) ((zs.length:Nat):Int) i j
  have VI:=hJ.1.2
  rw[List.length_append] at VI
  refine zD 5<|zJ 40 ((j:Int) <(K.after.length:Int)) (fun h7=>?_) fun h7=>?_
  ·
   refine zD 10 ?_
   have iM:=Dk zs i j
   refine zD 4<|I6 (b:=pf) (off:=0) (len:=4) (sz:=4) (i:Int) (by omega)<|I6 (b:=pf) (off:=0+(i:Int).toNat*4) (len:=4) (sz:=1) (j:Int) (by omega)<|ki (b:=pf) (off:=0+(i:Int).toNat*4+(j:Int).toNat*1) (m:=1) (vs:=[zI ((ax zs).c i j)]) 0 [2] [(pf,.cells ⟨[zI ((ax zs).c 0 0),zI ((ax zs).c 0 1),zI ((ax zs).c 0 2),zI ((ax zs).c 0 3),zI ((ax zs).c 1 0),zI ((ax zs).c 1 1),zI ((ax zs).c 1 2),zI ((ax zs).c 1 3),zI ((ax zs).c 2 0),zI ((ax zs).c 2 1),zI ((ax zs).c 2 2),zI ((ax zs).c 2 3),zI ((ax zs).c 3 0),zI ((ax zs).c 3 1),zI ((ax zs).c 3 2),zI ((ax zs).c 3 3)]⟩ 158 (0,0))] (fun s _ hZ=>qh (hZ _ (.head _)) (AY (m:=ax zs) (by omega) (by omega)))<|zD 2<|jp (vs:=[zI ((ax zs).c i j),zI (zs.length:Int)]) [] [] (fun aG hs hZ=>avO)<|zD 1<|js 50 (decide (((ax zs).c i j)=(zs.length:Int))) (fun h8=>?_) (fun h8=>?_)
   ·
    refine zD 5<|jn fun Ti=>jn fun b55=>iK (sz:=1) (ps:=es) (qs:=[(.slice (some ⟨Ti,0,none⟩) 2 2:Value)]) (enc:=fw) (w:= .slice (some ⟨b55,0,none⟩) 1 1) [2] [0] [(b55,.cells ⟨([(.slice (some ⟨Ti,0,none⟩) 2 2:Value)].map fw).flatten⟩ 22 (0,0))] (hJ.2.1) (fun s _ hZ=>bV [(.slice (some ⟨Ti,0,none⟩) 2 2:Value)] (hZ _ (.head _)) (by intro p hp;rfl)) (by intro p hp;rw[List.mem_singleton] at hp;subst hp;exact ai rfl) (by simp only[List.length_cons,List.length_nil];omega) (fun v56 L56 qo=>?_)
    obtain⟨PG,PD,VK⟩:=qo.form
    subst VK
    refine zD 3<|ja ((j:Int)+1) (by omega)<|zD 2<|JG jV (⟨j+1,(.slice PG ((es++[(.slice (some ⟨Ti,0,none⟩) 2 2:Value)])).length PD),L56,(es++[(.slice (some ⟨Ti,0,none⟩) 2 2:Value)]),Z++[(Ti,.cells ⟨[zI (i:Int),zI (j:Int)]⟩ 3 (0,0))]⟩) ⟨⟨by dsimp only;omega,by dsimp only;rw[Yo (of_decide_eq_true (by assumption)),←List.append_assoc];simp only[zM] at*;omega⟩,qo,fun aD hk=>by dsimp only;rw[Yo (of_decide_eq_true (by assumption)),←List.append_assoc];exact(hJ.2.2 aD hk.left).snoc (bU (enc:=cy) (T:=3) [(i:Int),(j:Int)] (hk.right _ (.head _)) (fun _ _=>rfl))⟩ (by dsimp only;omega) [[0],[3,2],[4],[5],[6]] (Sub.refl _)
   refine zD 3<|ja ((j:Int)+1) (by omega)<|zD 2<|bF jV (⟨j+1,vO,LO,es,Z⟩) ⟨⟨by dsimp only;omega,by dsimp only;rw[Yp (of_decide_eq_false (by assumption))];exact hJ.1.2⟩,hJ.2.1,by dsimp only;rw[Yp (of_decide_eq_false (by assumption))];exact hJ.2.2⟩ (by dsimp only;omega) (zN 0 5) (Sub.refl _)
  refine zD 3<|ja ((i:Int)+1) (by omega)<|zD 2<|bF bG (⟨i+1,vO,LO,es,Z⟩) ⟨⟨by dsimp only;omega,by have:=hJ.1.2;rw[show j=K.after.length by omega] at this;exact this⟩,hJ.2.1,by have:=hJ.2.2;rw[show j=K.after.length by omega] at this;exact this⟩ (by dsimp only;omega) (zN 0 5) (Sub.refl _)
 refine zD 9<|aEG qC.a.a (.tuple ⟨[vO,zI 0]⟩) [0,1,4] LO Z (bZ.trans oO) ⟨zs,_,_,hz,rfl,.inr ⟨su.1,rfl,fun aD hk=>⟨es,hI.2.1.jF hk.left,by have:=hI.2.2 aD hk.right;rwa[show i=K.before.length by omega] at this⟩⟩⟩
structure xe where
 f:Bool
 a:Int
 b:Int
 w:Int
def acR(m:eZ)(n:Int)(i j:Nat):Int:=max (m.c i j) (n-m.c i j)
def BF(m:eZ)(n:Int)(i:Nat)(s:xe):Nat→xe
 |0=>s
 |j+1=>if acR m n i j <(BF m n i s j).w then ⟨true,i,j,acR m n i j⟩ else BF m n i s j
def acS(m:eZ)(n:Int)(w:Nat):Nat→xe
 |0=>⟨false,0,0,n⟩
 |i+1=>BF m n i (acS m n w i) w
def W5(s:xe):Int×Int×Int×Int:=bif s.f then (s.a,s.b,s.w,0) else (0,0,0,11)
theorem azm{m:eZ}{j:Nat}{s:xe}{f:Bool}{a b w:Int}(h:(⟨f,a,b,w⟩:xe)=BF m n i s j)(h2:acR m n i j <w):(⟨true,i,j,acR m n i j⟩:xe)=BF m n i s (j+1):=by rw[BF,←h,if_pos h2]
theorem akP{m:eZ}{j:Nat}{s:xe}{f:Bool}{a b w:Int}(h:(⟨f,a,b,w⟩:xe)=BF m n i s j)(h2:¬acR m n i j <w):(⟨f,a,b,w⟩:xe)=BF m n i s (j+1):=by rw[BF,←h,if_neg h2]
theorem avN{rows:List bD}(hK:fx ro l K)(hV:ee K)(hR:rows.length≤2)(hB:gN ro l K rows)(hCt:qO):Ae zT 50 [.agg ⟨l⟩] ro [] (fun r Y=>∃zs v e,zs.Perm (cU K (aP K) (cz K.gone K.new K.af) rows)∧r= .tuple ⟨[v,zI e]⟩∧((zs=[]∧v= zS∧e=9∧Y=[])∨(zs≠[]∧e=0∧∀aD,Knows aD Y→LL aD v (pw (ax zs) ((zs.length:Nat):Int) K.after.length K.before.length)))):=by
 obtain⟨v0,v1,v3,v4,v5,v6,v7,vb,fa,fc,hv,rfl,_⟩:=id hK
 refine CJ ar [] [] aW fun fr=>zD 2<|jn fun b1=>jd 6 [0]<|Pa (vs:=[.agg ⟨[v0,v1,.slice fa 0 fc,v3,v4,v5,v6,v7,zI K.gone,zI K.new,zI K.af,vb]⟩,.func (.func 106) ⟨[]⟩ ⟨[]⟩]) [] (fun _ _ h=>h) (an0 hK hV hR hB hCt) ?_
 rintro _ Y5 ⟨zs,v5,e5,hz,rfl,hcs⟩
 refine zD 6<|O9 qC (.tuple ⟨[v5,zI e5]⟩) [0,2] Y5 (Sub.refl _) ⟨zs,v5,e5,hz,rfl,hcs⟩
theorem aPC{rows:List bD}(hK:fx ro l K)(hV:ee K)(hR:rows.length≤2)(hB:gN ro l K rows)(hCt:qO):Ae zT 54 [.agg ⟨l⟩] ro [] (fun r Y=>∃zs a b w e,zs.Perm (cU K (aP K) (cz K.gone K.new K.af) rows)∧Y=[]∧r= .tuple ⟨[zI a,zI b,zI w,zI e]⟩∧((zs=[]∧a=0∧b=0∧w=0∧e=9)∨(zs≠[]∧(a,b,w,e)=W5 (acS (ax zs) ((zs.length:Nat):Int) K.after.length K.before.length)))):=by
 obtain⟨v0,v1,v3,v4,v5,v6,v7,vb,fa,fc,hv,rfl,_⟩:=id hK
 refine CJ ar [] [] aW fun fr=>zD 2<|jn fun b1=>jd 8 [0]<|aob (vs:=[.agg ⟨[v0,v1,.slice fa 0 fc,v3,v4,v5,v6,v7,zI K.gone,zI K.new,zI K.af,vb]⟩]) [] (fun _ _ h=>h) (YM hK hV hR hB) ?_
 rintro _ aG Y14 bZ ⟨f14,zs,v14,Oo,rfl,Ao,hz,VB,he⟩
 have RL:∀x∈zs,(-4≤x.gone∧x.gone≤4)∧(-4≤x.new∧x.new≤4)∧(0≤x.af∧x.af≤4):=fun x hx=>by obtain⟨i,r,p,_,_,rfl,_⟩:=fN (hz.mem_iff.1 hx);exact nG hV r i p
 have hzl:zs.length≤1250:=by rw[hz.length_eq];exact oM hV _ _ hR
 have hpr:∀x∈zs,∀q,0≤pI x q∧pI x q≤4:=fun x hx=>by obtain⟨i,r,p,_,hp,rfl,_⟩:=fN (hz.mem_iff.1 hx);exact Fo ((iR hV _).2 p hp)
 obtain⟨d0,d1,d2,d3,d4,d5,d6,d7,d8,d9,dh,hf,pY,nn,hr,C3,HR,JU,bW⟩:=id Ao
 obtain⟨kI,Jy,Jw,jP,rfl,Jx,Ez,Ey⟩:=C3
 obtain⟨kJ,JB,Jz,jQ,rfl,JA,EB,EA⟩:=HR
 have CX:=hV.before.1
 have Fu:=hV.after.1
 refine zD 7<|jf [0] Y14 (fun ro4 oO Zm=>?_)
 have hZ1:=VB.jF Zm
 obtain⟨rY,Nc,Na,qi,rfl,Nb,GG,GF⟩:=hZ1
 refine zD 7<|js 20 (!decide (Oo=0)) (fun h5=>?_) (fun h5=>?_)
 ·
  replace h5:=of_decide_eq_false (by simpa using h5)
  have su:zs=[]∧Oo=9:=by rcases he with h| ⟨_,h⟩;exact h;omega
  refine zD 10<|O9 qC.a.a (.tuple ⟨[zI 0,zI 0,zI 0,zI Oo]⟩) [1] [] (bZ.trans oO) ⟨zs,_,_,_,_,hz,rfl,rfl,.inl ⟨su.1,rfl,rfl,rfl,su.2⟩⟩
 replace h5:=of_decide_eq_true (by simpa using h5)
 have su:zs≠[]∧Oo=0:=by rcases he with ⟨_,h⟩|h;omega;exact h
 refine zD 5<|jc (vs:=[.slice rY zs.length qi]) [] (hCt (show bB _ _ _ _ _ from ⟨rY,Nc,Na,qi,rfl,Nb,GG,GF⟩) (by omega) hpr) ?_
 rintro _ _ ⟨rfl,rfl⟩
 refine jg 0 []<|jn fun b8=>jd 16 [0]<|jl (b:=f14) (off:=0) (m:=13) (vs:=[d0,d1,d2,d3,d4,d5,.slice kI K.before.length jP,.slice kJ K.after.length jQ,zI K.gone,zI K.new,zI K.af,d8,d9]) 6 ⟨_,_,_,.inl (oO _ _ hf),rfl⟩<|zD 4<|dw [1,1,1,1,1,0,1,0,0] [] (fun(zz:Nat×Bool×Int×Int×Int)=>[(2,zI zz.2.2.1),(3,zI zz.2.2.2.1),(4,zI zz.2.2.2.2),(5,zI Oo),(6,zP f14),(7,.slice rY zs.length qi),(8,zP b8),(9,.bool zz.2.1),(31,zI (K.before.length:Int)),(32,zI (zz.1:Int))]) (fun zz=>[.b b8 (.cells ⟨[zI ((ax zs).c 0 0),zI ((ax zs).c 0 1),zI ((ax zs).c 0 2),zI ((ax zs).c 0 3),zI ((ax zs).c 1 0),zI ((ax zs).c 1 1),zI ((ax zs).c 1 2),zI ((ax zs).c 1 3),zI ((ax zs).c 2 0),zI ((ax zs).c 2 1),zI ((ax zs).c 2 2),zI ((ax zs).c 2 3),zI ((ax zs).c 3 0),zI ((ax zs).c 3 1),zI ((ax zs).c 3 2),zI ((ax zs).c 3 3)]⟩ 158 (0,0)),.b b1 (.cells ⟨[v0,v1,.slice fa 0 fc,v3,v4,v5,v6,v7,zI K.gone,zI K.new,zI K.af,vb]⟩ 38 (0,0)),.l fr]) (fun zz=>zz.1≤K.before.length∧(⟨zz.2.1,zz.2.2.1,zz.2.2.2.1,zz.2.2.2.2⟩:xe)=(acS (ax zs) ((zs.length:Nat):Int) K.after.length zz.1)) (fun zz=>K.before.length-zz.1) (⟨0,false,0,0,((zs.length:Nat):Int)⟩) ⟨by dsimp only;omega,rfl⟩ [0,1,2] ?_
 rintro⟨i,qf,qa,qb,qw⟩ hI K1 bG rest
 dsimp only at hI
 refine zD 5<|zJ 33 ((i:Int) <(K.before.length:Int)) (fun h6=>?_) fun h6=>?_
 ·
  refine zD 15<|jl (b:=f14) (off:=0) (m:=13) (vs:=[d0,d1,d2,d3,d4,d5,.slice kI K.before.length jP,.slice kJ K.after.length jQ,zI K.gone,zI K.new,zI K.af,d8,d9]) 7 ⟨_,_,_,.inl (oO _ _ hf),rfl⟩<|zD 4<|dw [1,1,1,1,1,0,1,0,0,1,1,0,0,1,1,0,0] [K1] (fun(zz:Nat×Bool×Int×Int×Int)=>[(2,zI zz.2.2.1),(3,zI zz.2.2.2.1),(4,zI zz.2.2.2.2),(5,zI Oo),(6,zP f14),(7,.slice rY zs.length qi),(8,zP b8),(9,.bool zz.2.1),(10,zI (i:Int)),(31,zI (K.before.length:Int)),(32,zI (i:Int)),(40,zI (K.after.length:Int)),(41,zI (zz.1:Int))]) (fun zz=>[.b b8 (.cells ⟨[zI ((ax zs).c 0 0),zI ((ax zs).c 0 1),zI ((ax zs).c 0 2),zI ((ax zs).c 0 3),zI ((ax zs).c 1 0),zI ((ax zs).c 1 1),zI ((ax zs).c 1 2),zI ((ax zs).c 1 3),zI ((ax zs).c 2 0),zI ((ax zs).c 2 1),zI ((ax zs).c 2 2),zI ((ax zs).c 2 3),zI ((ax zs).c 3 0),zI ((ax zs).c 3 1),zI ((ax zs).c 3 2),zI ((ax zs).c 3 3)]⟩ 158 (0,0)),.b b1 (.cells ⟨[v0,v1,.slice fa 0 fc,v3,v4,v5,v6,v7,zI K.gone,zI K.new,zI K.af,vb]⟩ 38 (0,0)),.l fr]) (fun zz=>zz.1≤K.after.length∧(⟨zz.2.1,zz.2.2.1,zz.2.2.2.1,zz.2.2.2.2⟩:xe)=(BF (ax zs) ((zs.length:Nat):Int) i (acS (ax zs) ((zs.length:Nat):Int) K.after.length i) zz.1)) (fun zz=>K.after.length-zz.1) (⟨0,qf,qa,qb,qw⟩) ⟨by dsimp only;omega,hI.2⟩ [0,1,2] ?_
  rintro⟨j,qf,qa,qb,qw⟩ hJ K2 jV rest
  dsimp only at hJ
  refine zD 5<|zJ 42 ((j:Int) <(K.after.length:Int)) (fun h7=>?_) fun h7=>?_
  ·
   refine zD 10 ?_
   have iM:=Dk zs i j
   refine zD 3<|I6 (b:=b8) (off:=0) (len:=4) (sz:=4) (i:Int) (by omega)<|I6 (b:=b8) (off:=0+(i:Int).toNat*4) (len:=4) (sz:=1) (j:Int) (by omega)<|ki (b:=b8) (off:=0+(i:Int).toNat*4+(j:Int).toNat*1) (m:=1) (vs:=[zI ((ax zs).c i j)]) 0 [0] [(b8,.cells ⟨[zI ((ax zs).c 0 0),zI ((ax zs).c 0 1),zI ((ax zs).c 0 2),zI ((ax zs).c 0 3),zI ((ax zs).c 1 0),zI ((ax zs).c 1 1),zI ((ax zs).c 1 2),zI ((ax zs).c 1 3),zI ((ax zs).c 2 0),zI ((ax zs).c 2 1),zI ((ax zs).c 2 2),zI ((ax zs).c 2 3),zI ((ax zs).c 3 0),zI ((ax zs).c 3 1),zI ((ax zs).c 3 2),zI ((ax zs).c 3 3)]⟩ 158 (0,0))] (fun s _ hZ=>qh (hZ _ (.head _)) (AY (m:=ax zs) (by omega) (by omega)))<|zD 4<|I6 (b:=b8) (off:=0) (len:=4) (sz:=4) (i:Int) (by omega)<|I6 (b:=b8) (off:=0+(i:Int).toNat*4) (len:=4) (sz:=1) (j:Int) (by omega)<|ki (b:=b8) (off:=0+(i:Int).toNat*4+(j:Int).toNat*1) (m:=1) (vs:=[zI ((ax zs).c i j)]) 0 [0] [(b8,.cells ⟨[zI ((ax zs).c 0 0),zI ((ax zs).c 0 1),zI ((ax zs).c 0 2),zI ((ax zs).c 0 3),zI ((ax zs).c 1 0),zI ((ax zs).c 1 1),zI ((ax zs).c 1 2),zI ((ax zs).c 1 3),zI ((ax zs).c 2 0),zI ((ax zs).c 2 1),zI ((ax zs).c 2 2),zI ((ax zs).c 2 3),zI ((ax zs).c 3 0),zI ((ax zs).c 3 1),zI ((ax zs).c 3 2),zI ((ax zs).c 3 3)]⟩ 158 (0,0))] (fun s _ hZ=>qh (hZ _ (.head _)) (AY (m:=ax zs) (by omega) (by omega)))<|ja ((zs.length:Int)-((ax zs).c i j)) (by omega)<|jmx (k:= .i64) (a:=((ax zs).c i j)) (b:=((zs.length:Int)-((ax zs).c i j)))<|zD 8<|zJ 60 ((max ((ax zs).c i j) ((zs.length:Int)-((ax zs).c i j))) <qw) (fun h8=>?_) fun h8=>?_
   ·
    refine zD 11<|ja ((j:Int)+1) (by omega)<|zD 2<|bF jV (⟨j+1,true,(i:Int),(j:Int),(max ((ax zs).c i j) ((zs.length:Int)-((ax zs).c i j)))⟩) ⟨by dsimp only;omega,azm hJ.2 (by assumption)⟩ (by dsimp only;omega) [0,1,2] (Sub.refl _)
   refine zD 3<|ja ((j:Int)+1) (by omega)<|zD 2<|bF jV (⟨j+1,qf,qa,qb,qw⟩) ⟨by dsimp only;omega,akP hJ.2 (by assumption)⟩ (by dsimp only;omega) [0,1,2] (Sub.refl _)
  refine zD 3<|ja ((i:Int)+1) (by omega)<|zD 2<|bF bG (⟨i+1,qf,qa,qb,qw⟩) ⟨by dsimp only;omega,by have:=hJ.2;rw[show j=K.after.length by omega] at this;exact this⟩ (by dsimp only;omega) [0,1,2] (Sub.refl _)
 refine zD 8<|js 67 (!qf) (fun h9=>?_) (fun h9=>?_)
 ·
  try simp only[zB] at h9
  refine zD 9<|O9 qC.a.a (.tuple ⟨[zI 0,zI 0,zI 0,zI 11]⟩) [2] [] (bZ.trans oO) ⟨zs,_,_,_,_,hz,rfl,rfl,.inr ⟨su.1,by have:=hI.2;rw[show i=K.before.length by omega] at this;rw[←this];simp only[W5];cases qf<;>first|rfl|contradiction|simp_all⟩⟩
 try simp only[zB] at h9
 refine zD 13<|O9 qC.a.a (.tuple ⟨[zI qa,zI qb,zI qw,zI 0]⟩) [2] [] (bZ.trans oO) ⟨zs,_,_,_,_,hz,rfl,rfl,.inr ⟨su.1,by have:=hI.2;rw[show i=K.before.length by omega] at this;rw[←this];simp only[W5];cases qf<;>first|rfl|contradiction|simp_all⟩⟩
def Jp:Value→Int
 | .int _ n=>n
 |_=>0
def Uf(f:P4→Int)(F:List (P4×Value)):Int:=(F.map fun x=>f x.1*Jp x.2).sum
def pk(x:aj):P4:=(x.w0,x.w1,x.w2,x.w3)
def aey(f:P4→Int)(zs:List aj):Int:=(zs.map fun x=>f (pk x)).sum
structure CF(F:List (P4×Value))(zs:List aj):Prop where
 sum:∀f,Uf f F=aey f zs
 val:∀x∈F,∃n,x.2= zI n∧0≤n∧n≤zs.length
 key:∀x∈F,∃z∈zs,x.1=pk z
theorem CF.nil:CF [] []:=⟨fun _=>rfl,by simp,by simp⟩
theorem Gg(g:κ×Value→Int):∀ {F:List (κ×Value)} {i:Nat} {k:κ} {u v:Value},F[i]?=some (k,u)→((tP k v F i).map g).sum=(F.map g).sum-g (k,u)+g (k,v)
 | [],_,_,_,_,h=>by simp at h
 |x::F,0,k,u,v,h=>by simp at h;subst h;simp only[tP,List.map_cons,List.sum_cons];omega
 |x::F,i+1,k,u,v,h=>by
  simp at h
  have:=Gg g (v:=v) h
  simp only[tP,List.map_cons,List.sum_cons];omega
theorem wm:∀ {F:List (κ×Value)} {i:Nat} {k:κ} {v:Value} {x:κ×Value},x∈tP k v F i→x=(k,v)∨x∈F
 | [],_,_,_,_,h=>by cases h
 |y::F,0,k,v,x,h=>by
  rcases List.mem_cons.1 h with h|h
  ·exact .inl h
  exact .inr (List.mem_cons_of_mem _ h)
 |y::F,i+1,k,v,x,h=>by
  rcases List.mem_cons.1 h with h|h
  ·exact .inr (by rw[h];exact List.mem_cons_self)
  exact(wm h).imp id (List.mem_cons_of_mem _)
theorem CF.look{F:List (P4×Value)}{zs:List aj}(h:CF F zs)(k:P4):∃n,Rj (zI 0) false k F= zI n∧0≤n∧n≤zs.length:=by
 simp only[Rj,lkM]
 cases hf:sH k F 0 with
 |none=>exact⟨0,rfl,by omega,by omega⟩
 |some u=>
  obtain⟨j,u⟩:=u
  have:=(qB hf).2
  exact h.val _ (zL this)
theorem CF.upd{F F1:List (P4×Value)}{zs:List aj}{x:aj}(h:CF F zs)(h1:((∃u,sH (pk x) F 0=some u)∧F1=F)∨(sH (pk x) F 0=none∧F1=F++[(pk x,zI 0)]))(hl:Rj (zI 0) false (pk x) F= zI n)(hn:0≤n∧n≤zs.length):CF (mi (pk x) (zI (n+1)) F1) (zs++[x]):=by
 have hz (f:P4→Int):aey f (zs++[x])=aey f zs+f (pk x):=by simp[aey]
 rcases h1 with ⟨⟨⟨j,u⟩,hf⟩,rfl⟩| ⟨hf,rfl⟩
 ·have hu:=qB hf
  simp only[Nat.sub_zero] at hu
  have qT:u= zI n:=by simpa [Rj,lkM,hf] using hl
  subst qT
  simp only[mi,hf]
  refine⟨fun f=>?_,fun y hy=>?_,fun y hy=>?_⟩
  ·rw[hz,←h.sum,Uf,Gg _ hu.2,Uf]
   simp only[Jp,Int.mul_add,Int.mul_one];omega
  ·rcases wm hy with rfl|hy
   ·exact⟨n+1,rfl,by omega,by simp;omega⟩
   obtain⟨m,h1,h2⟩:=h.val _ hy
   exact⟨m,h1,by omega,by simp;omega⟩
  rcases wm hy with rfl|hy
  ·exact⟨x,by simp,rfl⟩
  obtain⟨z,h1,h2⟩:=h.key _ hy
  exact⟨z,by simp[h1],h2⟩
 have qT:n=0:=by
  have:(Value.int .i64 0)= zI n:=by simpa [Rj,lkM,hf] using hl
  cases this;rfl
 subst qT
 have hs:mi (pk x) (zI (0+1)) (F++[(pk x,zI 0)])=tP (pk x) (zI (0+1)) (F++[(pk x,zI 0)]) (0+F.length):=by
  simp only[mi,Bj (v:= zI 0) hf]
 have hg:(F++[(pk x,Value.int .i64 0)])[0+F.length]?=some (pk x,zI 0):=by simp
 rw[hs]
 refine⟨fun f=>?_,fun y hy=>?_,fun y hy=>?_⟩
 ·rw[hz,←h.sum,Uf,Gg _ hg,Uf]
  simp[Jp]
 ·rcases wm hy with rfl|hy
  ·exact⟨0+1,rfl,by omega,by simp;omega⟩
  rcases List.mem_append.1 hy with hy|hy
  ·obtain⟨m,h1,h2⟩:=h.val _ hy
   exact⟨m,h1,by omega,by simp;omega⟩
  rw[List.mem_singleton] at hy;subst hy
  exact⟨0,rfl,by omega,by omega⟩
 rcases wm hy with rfl|hy
 ·exact⟨x,by simp,rfl⟩
 rcases List.mem_append.1 hy with hy|hy
 ·obtain⟨z,h1,h2⟩:=h.key _ hy
  exact⟨z,by simp[h1],h2⟩
 rw[List.mem_singleton] at hy;subst hy
 exact⟨x,by simp,rfl⟩
def fV(i j:Nat):Value→Int
 | .agg ⟨l⟩=>(match l[i]? with
  |some (.int _ n)=>if n=(j:Int)+1 then 1 else 0
  |_=>0)
 |_=>0
def sR(i j:Nat)(l:List MapEntry):Int:=(l.map fun e=>fV i j e.key*Jp e.val).sum
theorem aez{F:List (P4×Value)}{es:Array MapEntry}(h:tF I3 F es ck)(i j:Nat):sR i j es.toList=Uf (fun k=>fV i j (I3 k)) F:=by
 have h1:=congrArg (List.map fun p:Value×Value=>fV i j p.1*Jp p.2) h.1
 simp only[List.map_map] at h1
 unfold sR Uf
 exact congrArg List.sum h1
theorem P5(i j:Nat):∀ {l:List MapEntry} {e:MapEntry},(l.map (·.born)).Nodup→e∈l→sR i j l=fV i j e.key*Jp e.val+sR i j (l.filter fun x=> !decide (x.born=e.born))
 | [],_,_,h=>by cases h
 |x::l,e,hn,h=>by
  simp only[List.map_cons,List.nodup_cons] at hn
  rcases List.mem_cons.1 h with rfl|h
  ·have:l.filter (fun y=> !decide (y.born=e.born))=l:=by
    refine List.filter_eq_self.2 fun y hy=>?_
    have:y.born≠e.born:=fun h=>hn.1 (h▸List.mem_map_of_mem hy)
    simp[this]
   rw[List.filter_cons_of_neg (by simp),this];rfl
  have dI:x.born≠e.born:=fun k=>hn.1 (k▸List.mem_map_of_mem h)
  rw[List.filter_cons_of_pos (by simp[dI])]
  have:=P5 i j hn.2 h
  simp only[sR,List.map_cons,List.sum_cons] at this ⊢
  omega
theorem U6(es:Array MapEntry)(seen:List Nat)(b:Nat):cM es (seen++[b])=(cM es seen).filter fun x=> !decide (x.born=b):=by
 simp only[cM,List.filter_filter]
 refine List.filter_congr fun x _=>?_
 simp only[List.contains_eq_mem,List.mem_append,List.mem_singleton,Bool.decide_or,Bool.not_or]
 rw[Bool.and_comm]
theorem Kk{F:List (P4×Value)}{es:Array MapEntry}(h:tF I3 F es ck){e:MapEntry}(he:e∈cM es seen)(i j:Nat):sR i j (cM es seen)=fV i j e.key*Jp e.val+sR i j (cM es (seen++[e.born])):=by
 rw[U6]
 exact P5 i j ((List.filter_sublist.map _).nodup h.2.1) he
theorem asl(i j:Nat)(v:Value):fV i j v=0∨fV i j v=1:=by
 unfold fV
 split<;>try exact .inl rfl
 split<;>try exact .inl rfl
 split<;>simp
theorem P3{i j:Nat}:∀ {l:List MapEntry},(∀e∈l,0≤Jp e.val)→0≤sR i j l
 | [],_=>Int.le_refl _
 |x::l,h=>by
  have h1:=P3 (i:=i) (j:=j) (l:=l) fun e he=>h e (List.mem_cons_of_mem _ he)
  have h2:=h x List.mem_cons_self
  simp only[sR,List.map_cons,List.sum_cons] at h1 ⊢
  rcases asl i j x.key with h3|h3<;>rw[h3]<;>omega
theorem amm{F:List (P4×Value)}{zs:List aj}(h:CF F zs){es:Array MapEntry}(hE:tF I3 F es ck):∀e∈cM es seen,0≤Jp e.val:=fun e he=>by
 have h1:e∈es.toList:=(List.mem_filter.1 he).1
 have h2:(e.key,e.val)∈es.toList.map (fun e=>(e.key,e.val)):=List.mem_map_of_mem (f:=fun e:MapEntry=>(e.key,e.val)) h1
 rw[hE.1] at h2
 obtain⟨y,h3,h4⟩:=List.mem_map.1 h2
 obtain⟨n,h5,h6,_⟩:=h.val _ h3
 simp only[Prod.mk.injEq] at h4
 rw[←h4.2,h5];exact h6
theorem ZJ(x:aj)(j:Nat)(hi:i <4):fV i j (I3 (pk x))=if pI x i=(j:Int)+1 then 1 else 0:=by
 rcases A0 hi with rfl|rfl|rfl|rfl<;>rfl
theorem XH(p:α→Prop)[DecidablePred p]:∀l:List α,(l.map fun x=>if p x then (1:Int) else 0).sum=((l.filter fun x=>decide (p x)).length:Int)
 | []=>rfl
 |x::l=>by
  rw[List.map_cons,List.sum_cons,XH p l]
  by_cases h:p x
  ·rw[if_pos h,List.filter_cons_of_pos (by simpa using h),List.length_cons];omega
  rw[if_neg h,List.filter_cons_of_neg (by simpa using h)];omega
theorem CF.total{F:List (P4×Value)}{zs:List aj}(h:CF F zs){es:Array MapEntry}(hE:tF I3 F es ck)(j:Nat)(hi:i <4):sR i j (cM es [])=(ax zs).c i j:=by
 rw[CE,aez hE,h.sum,aey]
 simp only[ZJ _ j hi]
 exact XH (fun x=>pI x i=(j:Int)+1) zs
theorem adF{z:aj}(h:(z.w0==0&&(z.w1==0&&(z.w2==0&&(z.w3==0&&true))))=true)(i:Nat):pI z i=0:=by
 simp only[Bool.and_eq_true,beq_iff_eq] at h
 match i with
 |0=>exact h.1
 |1=>exact h.2.1
 |2=>exact h.2.2.1
 |_+3=>exact h.2.2.2.1
def E8(m:eZ)(S T:Nat→Nat→Int):Prop:=∀i j,i <4→j <4→0≤m.c i j∧m.c i j+S i j=T i j
theorem E8.init{F:List (P4×Value)}{zs:List aj}(h:CF F zs){es:Array MapEntry}(hE:tF I3 F es ck):E8 ⟨fun _ _=>0⟩ (fun i j=>sR i j (cM es [])) (ax zs).c:=fun i j hi _=>⟨Int.le_refl _,by show 0+sR i j (cM es [])=_;rw[h.total hE j hi];exact Int.zero_add _⟩
def inS(z:aj)(n:Int)(q:Nat)(R:Nat→Nat→Int):Nat→Nat→Int:=fun i j=>(if i <q then 0 else fV i j (I3 (pk z))*n)+R i j
theorem E8.zero{m:eZ}{z:aj}{n:Int}{es:Array MapEntry}{ck:Nat}{F:List (P4×Value)}{T:Nat→Nat→Int}{seen:List Nat}{e:MapEntry}(hE:tF I3 F es ck)(he:e∈cM es seen)(hk:e.key=I3 (pk z))(hz:∀i,pI z i=0)(h:E8 m (fun i j=>sR i j (cM es seen)) T):E8 m (fun i j=>sR i j (cM es (seen++[e.born]))) T:=fun i j hi hj=>by
 have h1:=h i j hi hj
 have h2:=Kk hE he i j
 rw[hk,ZJ z j hi,if_neg (by rw[hz];omega),Int.zero_mul,Int.zero_add] at h2
 dsimp only at h1 ⊢
 rw[h2] at h1;exact h1
theorem E8.open_{m:eZ}{z:aj}{es:Array MapEntry}{F:List (P4×Value)}{e:MapEntry}(hE:tF I3 F es ck)(he:e∈cM es seen)(hk:e.key=I3 (pk z))(hv:e.val= zI n)(h:E8 m (fun i j=>sR i j (cM es seen)) T):E8 m (inS z n 0 fun i j=>sR i j (cM es (seen++[e.born]))) T:=fun i j hi hj=>by
 have h1:=h i j hi hj
 have h2:=Kk hE he i j
 rw[hk,hv] at h2
 simp only[Jp] at h2
 simp only[inS,if_neg (Nat.not_lt_zero i)]
 dsimp only at h1
 rw[h2] at h1;exact h1
theorem E8.close{m:eZ}{z:aj}(h:E8 m (inS z n 4 R) T):E8 m R T:=fun i j hi hj=>by
 have h1:=h i j hi hj
 simp only[inS,if_pos hi,Int.zero_add] at h1
 exact h1
theorem E8.skip{m:eZ}{z:aj}(h:E8 m (inS z n q R) T)(hq:¬pI z q>0):E8 m (inS z n (q+1) R) T:=fun i j hi hj=>by
 have h1:=h i j hi hj
 simp only[inS] at h1 ⊢
 by_cases e:i=q
 ·subst e
  rw[if_neg (Nat.lt_irrefl _),ZJ z j hi,if_neg (by omega),Int.zero_mul] at h1
  rw[if_pos (Nat.lt_succ_self _)];exact h1
 by_cases e2:i <q
 ·rw[if_pos e2] at h1;rw[if_pos (by omega)];exact h1
 rw[if_neg e2] at h1;rw[if_neg (by omega)];exact h1
theorem E8.add{m:eZ}{z:aj}(h:E8 m (inS z n q R) T)(hn:0≤n)(hq:pI z q>0)(hq4:q <4):E8 (rP m q (pI z q-1).toNat (m.c q (pI z q-1).toNat+n)) (inS z n (q+1) R) T:=fun i j hi hj=>by
 have h1:=h i j hi hj
 simp only[inS,rP] at h1 ⊢
 by_cases e:i=q
 ·subst e
  rw[if_neg (Nat.lt_irrefl _),ZJ z j hi] at h1
  rw[if_pos (Nat.lt_succ_self _)]
  by_cases e2:j=(pI z i-1).toNat
  ·rw[if_pos (by omega)] at h1
   rw[if_pos ⟨rfl,e2⟩,←e2];omega
  rw[if_neg (by omega)] at h1
  rw[if_neg (by omega)];omega
 rw[if_neg (c:=i=q∧j=(pI z q-1).toNat) (by omega)]
 by_cases e2:i <q
 ·rw[if_pos e2] at h1;rw[if_pos (by omega)];exact h1
 rw[if_neg e2] at h1;rw[if_neg (by omega)];exact h1
theorem E8.bound{m:eZ}{z:aj}(h:E8 m (inS z n q R) T)(hR:∀i j,0≤R i j)(hn:0≤n){j:Nat}(hi:i <4)(hj:j <4):0≤m.c i j∧m.c i j≤T i j:=by
 have h1:=h i j hi hj
 have h2:=hR i j
 simp only[inS] at h1
 split at h1
 ·omega
 rcases asl i j (I3 (pk z)) with h3|h3<;>rw[h3] at h1<;>omega
theorem E8.fin{m:eZ}{zs:List aj}{es:Array MapEntry}(h:E8 m (fun i j=>sR i j (cM es seen)) (ax zs).c)(he:cM es seen=[]):zq m=zq (ax zs):=by
 have k (i j:Nat) (hi:i <4) (hj:j <4):m.c i j=(ax zs).c i j:=by
  have:=(h i j hi hj).2
  rw[he] at this
  simpa [sR] using this
 simp only[zq,k 0 0 (by decide) (by decide),k 0 1 (by decide) (by decide),k 0 2 (by decide) (by decide),k 0 3 (by decide) (by decide),k 1 0 (by decide) (by decide),k 1 1 (by decide) (by decide),k 1 2 (by decide) (by decide),k 1 3 (by decide) (by decide),k 2 0 (by decide) (by decide),k 2 1 (by decide) (by decide),k 2 2 (by decide) (by decide),k 2 3 (by decide) (by decide),k 3 0 (by decide) (by decide),k 3 1 (by decide) (by decide),k 3 2 (by decide) (by decide),k 3 3 (by decide) (by decide)]
theorem auS{z:aj}(h:q <4):nth [zI z.w0,zI z.w1,zI z.w2,zI z.w3] ((q:Int).toNat*1)=some (zI (pI z q)):=by
 rcases A0 h with rfl|rfl|rfl|rfl<;>rfl
theorem age{m:eZ}{a:Nat}(h:a <4)(k:0≤j∧j <4):nth (zq m) (0+(a:Int).toNat*4+j.toNat*1)=some (zI (m.c a j.toNat)):=by
 obtain⟨b,rfl⟩:=Int.eq_ofNat_of_zero_le k.1
 exact AY h (by omega)
theorem agd{m:eZ}{a:Nat}{v:Int}(h:a <4)(k:0≤j∧j <4):dD (zq m) (0+(a:Int).toNat*4+j.toNat*1) [zI v]=zq (rP m a j.toNat v):=by
 obtain⟨b,rfl⟩:=Int.eq_ofNat_of_zero_le k.1
 exact anB h (by omega)
theorem agf{m:eZ}{a:Nat}{v:Value}(h:a <4)(k:0≤j∧j <4):Nat.ble ((0+(a:Int).toNat*4+j.toNat*1)+[v].length) (zq m).length=true:=by
 obtain⟨b,rfl⟩:=Int.eq_ofNat_of_zero_le k.1
 exact anC h (by omega)
theorem aUQ(z:aj):EqV zT 136 (v4 z.w0 z.w1 z.w2 z.w3) (v4 0 0 0 0) (z.w0==0&&(z.w1==0&&(z.w2==0&&(z.w3==0&&true)))):=Ol (aIk (dep:=9998) (m9 Tryz.typeInfo136 Tryz.underlying136 rfl rfl rfl rfl rfl rfl) mz _ _ _ _ _ _ _ _)
theorem aPj:oe zT 136:=by unfold oe;kernel_rfl
theorem Rh{F F1:List (P4×Value)}{k:P4}(h1:((∃u,sH k F 0=some u)∧F1=F)∨(sH k F 0=none∧F1=F++[(k,zI 0)]))(hl:Rj (zI 0) false k F= zI n):Rj (zI 0) false k F1= zI n:=by
 rcases h1 with ⟨_,rfl⟩| ⟨hf,rfl⟩
 ·exact hl
 simp only[Rj,lkM,Bj (v:= zI 0) hf]
 simpa [Rj,lkM,hf] using hl
theorem ag1{v:Value}{zs:List aj}(hl:bB ro v 8 cR zs)(hn:zs.length≤100000)(hp:∀x∈zs,∀q,0≤pI x q∧pI x q≤4):dG zT 80 [v] ro [] (fun r Y=>r= .agg ⟨zq (ax zs)⟩∧Y=[]):=by
 obtain⟨fy,rX,rV,eO,rfl,tT,lN,mC⟩:=hl
 refine zE<|zD 2<|jn fun b2=>zD 3<|jmk I3 fun GB L11 ah4=>zD 10<|dw [1,1,0,1,0,0] [] (fun(zz:Nat×(List (P4×Value))×Cells)=>[(2,zP b2),(3,(.map (some GB))),(12,.slice fy zs.length eO),(13,zI (zs.length:Int)),(14,zI (zz.1:Int))]) (fun(zz:Nat×(List (P4×Value))×Cells)=>[.l zz.2.2,.b b2 (.cells ⟨[zI 0,zI 0,zI 0,zI 0,zI 0,zI 0,zI 0,zI 0,zI 0,zI 0,zI 0,zI 0,zI 0,zI 0,zI 0,zI 0]⟩ 158 (0,0))]) (fun(zz:Nat×(List (P4×Value))×Cells)=>zz.1≤zs.length∧jU GB I3 zz.2.1 zz.2.2∧CF zz.2.1 (zs.take zz.1)) (fun(zz:Nat×(List (P4×Value))×Cells)=>zs.length-zz.1) (⟨0,[],L11⟩) ⟨by dsimp only;omega,ah4,CF.nil⟩ [0,1] ?_
 rintro⟨k,F,LM⟩ hI K1 bG rest
 dsimp only at hI
 refine zD 5<|zJ 15 ((k:Int) <(zs.length:Int)) (fun h1=>?_) fun h1=>?_
 ·
  refine zD 6 ?_
  obtain⟨BZ,oX⟩:=zG zs k
  refine gX eO 8 lN oX<|jl 0 (mC _ _ oX)<|jn fun b5=>jd 2 [0] ?_
  obtain⟨nk,hlk,hnk⟩:=hI.2.2.look (pk BZ)
  have R7:(zs.take k).length=k:=by rw[List.length_take];omega
  refine jd 4 [0]<|I5 [3,5] ⟨fun z2 t3 pK=>?_,fun z5 t6 N1=>?_,trivial⟩
  ·
   refine jlu (kv:=I3) (F:=F) (r:=GB) (K:=136) (pk BZ) (zI 0) false [1] LM agJ (fun s _ hZ=>hI.2.1.has hZ)<|eG pK [0,1,2]<|jw 3 (zI nk) hlk<|ja (nk+1) (by omega)<|aS 5 fun aao aaC hL8=>jme (kv:=I3) (F:=F) (r:=GB) (L:=LM) 1 (pk BZ) agJ mz hI.2.1 fun Fm4 bm4 cm4 Lm4 be3 hm4=>gx hL8 []<|aS 6 fun TX Ub Sn=>zD 1<|eG Sn [0,1,2]<|aS 7 fun FI Ge wC=>jes 0 (zI (nk+1)) hm4 fun Lm7 hm7=>fW wC<|zD 2<|ja ((k:Int)+1) (by omega)<|zD 2<|bF bG (⟨k+1,_,Lm7⟩) ⟨by dsimp only;omega,hm7,by dsimp only;rw[iB oX];exact hI.2.2.upd (by assumption) hlk hnk⟩ (by dsimp only;omega) [0,2] (Sub.refl _)
  refine jme (kv:=I3) (F:=F) (r:=GB) (L:=LM) 1 (pk BZ) agJ mz hI.2.1 fun Fm9 bm9 cm9 Lm9 aHt hm9=>fW N1<|I5 [3,6] ⟨fun z11 t12 N4=>?_,fun z14 t15 EU=>?_,trivial⟩
  ·
   refine jlu (kv:=I3) (F:=Fm9) (r:=GB) (K:=136) (pk BZ) (zI 0) false [0] Lm9 agJ (fun s _ hZ=>hm9.own.has hZ)<|fW N4<|jw 3 (zI nk) (Rh aHt hlk)<|ja (nk+1) (by omega)<|aS 6 fun Xm Xw C6=>zD 1<|eG C6 [0,1,2]<|aS 7 fun adE aep N3=>jes 0 (zI (nk+1)) hm9 fun aVU aF0=>fW N3<|zD 2<|ja ((k:Int)+1) (by omega)<|zD 2<|bF bG (⟨k+1,_,aVU⟩) ⟨by dsimp only;omega,aF0,by dsimp only;rw[iB oX];exact hI.2.2.upd (by assumption) hlk hnk⟩ (by dsimp only;omega) [0,2] (Sub.refl _)
  refine zD 1<|fW EU<|aS 3 fun aqh aqC Wc=>jlu (kv:=I3) (F:=Fm9) (r:=GB) (K:=136) (pk BZ) (zI 0) false [0] Lm9 agJ (fun s _ hZ=>hm9.own.has hZ)<|fW Wc<|jw 3 (zI nk) (Rh aHt hlk)<|ja (nk+1) (by omega)<|aS 7 fun aAS aBR Wb=>jes 0 (zI (nk+1)) hm9 fun aVT aw1=>fW Wb<|zD 2<|ja ((k:Int)+1) (by omega)<|zD 2<|bF bG (⟨k+1,_,aVT⟩) ⟨by dsimp only;omega,aw1,by dsimp only;rw[iB oX];exact hI.2.2.upd (by assumption) hlk hnk⟩ (by dsimp only;omega) [0,2] (Sub.refl _)
 refine zD 4<|jn fun b6=>jf [1] LM (fun ba0 awt axm=>?_)
 have hCF:CF F zs:=by have:=hI.2.2;rwa[show k=zs.length by omega,List.take_length] at this
 obtain⟨BV,Jk,rfl,HV⟩:=hI.2.1
 refine zD 5<|jmR (axm _ (.head _)) fun r27=>jg 0 [.b r27 (uQ GB Jk [])]<|zD 2<|dw [1,1,1,1,0,1,0,0] [] (fun(zz:(List Nat)×eZ)=>[(2,zP b2),(6,zP b6),(27,zP r27)]) (fun zz=>[.b r27 (uQ GB Jk zz.1),.b b6 (.cells ⟨[zI (zz.2.c 0 0),zI (zz.2.c 0 1),zI (zz.2.c 0 2),zI (zz.2.c 0 3),zI (zz.2.c 1 0),zI (zz.2.c 1 1),zI (zz.2.c 1 2),zI (zz.2.c 1 3),zI (zz.2.c 2 0),zI (zz.2.c 2 1),zI (zz.2.c 2 2),zI (zz.2.c 2 3),zI (zz.2.c 3 0),zI (zz.2.c 3 1),zI (zz.2.c 3 2),zI (zz.2.c 3 3)]⟩ 158 (0,0)),.b b2 (.cells ⟨[zI 0,zI 0,zI 0,zI 0,zI 0,zI 0,zI 0,zI 0,zI 0,zI 0,zI 0,zI 0,zI 0,zI 0,zI 0,zI 0]⟩ 158 (0,0))]) (fun zz=>E8 zz.2 (fun i j=>sR i j (cM BV zz.1)) (ax zs).c) (fun zz=>(cM BV zz.1).length) (⟨[],⟨fun _ _=>0⟩⟩) (E8.init hCF HV) [0,1,2] ?_
 rintro⟨seen,m⟩ hI K21 ao3 rest
 dsimp only at hI
 refine zD 2<|jmN (it:=r27) (kv:=I3) (seen:=seen) 0 (axm _ (.head _)) HV (fun k28 v28 e28 aGv ab4 axk aE3=>?_) (fun av3=>?_)
 ·
  obtain⟨G2,arL,aFR⟩:=hCF.val _ aGv
  obtain⟨kX,av3,hkz⟩:=hCF.key _ aGv
  dsimp only at arL hkz
  subst arL
  subst hkz
  have hpz:=hp kX av3
  have cJ:=Ha ab4
  refine jg 0 [.b r27 (uQ GB Jk (seen++[e28.born]))]<|zD 8<|jmE (it:=r27) 0 (axm _ (.head _)) HV ab4 axk aE3<|jg 0 [.b r27 (uQ GB Jk (seen++[e28.born]))]<|zD 2<|jn fun b7=>jd 8 [0,0]<|jeq aPj (aUQ kX)<|zD 1<|js 35 (kX.w0==0&&(kX.w1==0&&(kX.w2==0&&(kX.w3==0&&true)))) (fun h21=>?_) (fun h21=>?_)
  ·
   refine zD 2<|bF ao3 (⟨(seen++[e28.born]),m⟩) (hI.zero (n:=0) HV ab4 axk (adF (by assumption))) cJ [1,2,3] (Sub.refl _)
  refine jd 8 [0]<|dw [1,1,1,1,0,1,0,0,1,1,0,1,1,1,0,0] [K21] (fun(zz:Nat×eZ)=>[(2,zP b2),(6,zP b6),(8,zI G2),(27,zP r27),(36,.agg ⟨[zI kX.w0,zI kX.w1,zI kX.w2,zI kX.w3]⟩),(37,zI (zz.1:Int))]) (fun zz=>[.b r27 (uQ GB Jk (seen++[e28.born])),.b b6 (.cells ⟨[zI (zz.2.c 0 0),zI (zz.2.c 0 1),zI (zz.2.c 0 2),zI (zz.2.c 0 3),zI (zz.2.c 1 0),zI (zz.2.c 1 1),zI (zz.2.c 1 2),zI (zz.2.c 1 3),zI (zz.2.c 2 0),zI (zz.2.c 2 1),zI (zz.2.c 2 2),zI (zz.2.c 2 3),zI (zz.2.c 3 0),zI (zz.2.c 3 1),zI (zz.2.c 3 2),zI (zz.2.c 3 3)]⟩ 158 (0,0)),.b b7 (.cells ⟨[zI kX.w0,zI kX.w1,zI kX.w2,zI kX.w3]⟩ 136 (0,0)),.b b2 (.cells ⟨[zI 0,zI 0,zI 0,zI 0,zI 0,zI 0,zI 0,zI 0,zI 0,zI 0,zI 0,zI 0,zI 0,zI 0,zI 0,zI 0]⟩ 158 (0,0))]) (fun zz=>zz.1≤4∧E8 zz.2 (inS kX G2 zz.1 (fun i j=>sR i j (cM BV (seen++[e28.born])))) (ax zs).c) (fun zz=>4-zz.1) (⟨0,m⟩) ⟨by dsimp only;omega,hI.open_ HV ab4 axk aE3⟩ [1,2,0,3] ?_
  rintro⟨q,m⟩ hJ K22 aHp rest
  dsimp only at hJ
  refine zD 5<|zJ 38 ((q:Int) <4) (fun LW=>?_) fun LW=>?_
  ·
   refine zD 7<|jai (l:=[zI kX.w0,zI kX.w1,zI kX.w2,zI kX.w3]) (q:Int) 4 1 false (by omega) (v:= zI (pI kX q)) (show nth [_,_,_,_] _=_ from auS (by omega))<|zD 8<|zJ 42 ((pI kX q)>0) (fun Fz=>?_) fun Fz=>?_
   ·
    refine zD 4<|ja ((pI kX q)-1) (by have:=hpz q;omega) ?_
    refine I6 (b:=b6) (off:=0) (len:=4) (sz:=4) (q:Int) (by omega)<|I6 (b:=b6) (off:=0+(q:Int).toNat*4) (len:=4) (sz:=1) ((pI kX q)-1) (by have:=hpz q;omega) ?_
    refine ki (b:=b6) (off:=0+(q:Int).toNat*4+((pI kX q)-1).toNat*1) (m:=1) (vs:=[zI (m.c q (pI kX q-1).toNat)]) 0 [1] [(b6,.cells ⟨[zI (m.c 0 0),zI (m.c 0 1),zI (m.c 0 2),zI (m.c 0 3),zI (m.c 1 0),zI (m.c 1 1),zI (m.c 1 2),zI (m.c 1 3),zI (m.c 2 0),zI (m.c 2 1),zI (m.c 2 2),zI (m.c 2 3),zI (m.c 3 0),zI (m.c 3 1),zI (m.c 3 2),zI (m.c 3 3)]⟩ 158 (0,0))] (fun s _ hZ=>qh (hZ _ (.head _)) (age (m:=m) (by omega) (by have:=hpz q;omega))) ?_
    refine zD 1<|ja ((m.c q (pI kX q-1).toNat)+G2) (by have h7:=hJ.2.bound (fun i j=>P3 (amm hCF HV)) aFR.1 (i:=q) (j:=(pI kX q-1).toNat) (by omega) (by have:=hpz q;omega);have h8:=Dk zs q (pI kX q-1).toNat;omega) ?_
    refine I6 (b:=b6) (off:=0) (len:=4) (sz:=4) (q:Int) (by omega)<|I6 (b:=b6) (off:=0+(q:Int).toNat*4) (len:=4) (sz:=1) ((pI kX q)-1) (by have:=hpz q;omega) ?_
    refine aS 10 fun aAR aBQ Wa=>jsx 1 b6 (0+(q:Int).toNat*4+((pI kX q)-1).toNat*1) [zI (m.c 0 0),zI (m.c 0 1),zI (m.c 0 2),zI (m.c 0 3),zI (m.c 1 0),zI (m.c 1 1),zI (m.c 1 2),zI (m.c 1 3),zI (m.c 2 0),zI (m.c 2 1),zI (m.c 2 2),zI (m.c 2 3),zI (m.c 3 0),zI (m.c 3 1),zI (m.c 3 2),zI (m.c 3 3)] [zI ((m.c q (pI kX q-1).toNat)+G2)] 158 (by intro v hv;rw[List.mem_singleton] at hv;subst hv;rfl) (agf (m:=m) (by omega) (by have:=hpz q;omega)) ?_
    refine jmw 0 [.b b6 (.cells ⟨[zI ((rP m q (pI kX q-1).toNat (m.c q (pI kX q-1).toNat+G2)).c 0 0),zI ((rP m q (pI kX q-1).toNat (m.c q (pI kX q-1).toNat+G2)).c 0 1),zI ((rP m q (pI kX q-1).toNat (m.c q (pI kX q-1).toNat+G2)).c 0 2),zI ((rP m q (pI kX q-1).toNat (m.c q (pI kX q-1).toNat+G2)).c 0 3),zI ((rP m q (pI kX q-1).toNat (m.c q (pI kX q-1).toNat+G2)).c 1 0),zI ((rP m q (pI kX q-1).toNat (m.c q (pI kX q-1).toNat+G2)).c 1 1),zI ((rP m q (pI kX q-1).toNat (m.c q (pI kX q-1).toNat+G2)).c 1 2),zI ((rP m q (pI kX q-1).toNat (m.c q (pI kX q-1).toNat+G2)).c 1 3),zI ((rP m q (pI kX q-1).toNat (m.c q (pI kX q-1).toNat+G2)).c 2 0),zI ((rP m q (pI kX q-1).toNat (m.c q (pI kX q-1).toNat+G2)).c 2 1),zI ((rP m q (pI kX q-1).toNat (m.c q (pI kX q-1).toNat+G2)).c 2 2),zI ((rP m q (pI kX q-1).toNat (m.c q (pI kX q-1).toNat+G2)).c 2 3),zI ((rP m q (pI kX q-1).toNat (m.c q (pI kX q-1).toNat+G2)).c 3 0),zI ((rP m q (pI kX q-1).toNat (m.c q (pI kX q-1).toNat+G2)).c 3 1),zI ((rP m q (pI kX q-1).toNat (m.c q (pI kX q-1).toNat+G2)).c 3 2),zI ((rP m q (pI kX q-1).toNat (m.c q (pI kX q-1).toNat+G2)).c 3 3)]⟩ 158 (0,0))] (L:=[(b6,.cells ⟨dD [zI (m.c 0 0),zI (m.c 0 1),zI (m.c 0 2),zI (m.c 0 3),zI (m.c 1 0),zI (m.c 1 1),zI (m.c 1 2),zI (m.c 1 3),zI (m.c 2 0),zI (m.c 2 1),zI (m.c 2 2),zI (m.c 2 3),zI (m.c 3 0),zI (m.c 3 1),zI (m.c 3 2),zI (m.c 3 3)] (0+(q:Int).toNat*4+((pI kX q)-1).toNat*1) [zI ((m.c q (pI kX q-1).toNat)+G2)]⟩ 158 (0,0))]) (by rw[agd (m:=m) (by omega) (by have:=hpz q;omega)];rfl) ?_
    refine gx Wa []<|zD 2<|ja ((q:Int)+1) (by omega)<|zD 2<|bF aHp (⟨q+1,(rP m q (pI kX q-1).toNat (m.c q (pI kX q-1).toNat+G2))⟩) ⟨by dsimp only;omega,hJ.2.add aFR.1 (by assumption) (by omega)⟩ (by dsimp only;omega) [1,0,2,3] (Sub.refl _)
   refine zD 3<|ja ((q:Int)+1) (by omega)<|zD 2<|bF aHp (⟨q+1,m⟩) ⟨by dsimp only;omega,hJ.2.skip (by assumption)⟩ (by dsimp only;omega) (zN 0 4) (Sub.refl _)
  refine zD 2<|bF ao3 (⟨(seen++[e28.born]),m⟩) (E8.close (z:=kX) (n:=G2) (by have:=hJ.2;rwa[show q=4 by omega] at this)) cJ [0,1,3] (Sub.refl _)
 refine jg 0 [.b r27 (uQ GB Jk seen)]<|jd 11 [1,2]<|aK q0.a (.agg ⟨[zI (m.c 0 0),zI (m.c 0 1),zI (m.c 0 2),zI (m.c 0 3),zI (m.c 1 0),zI (m.c 1 1),zI (m.c 1 2),zI (m.c 1 3),zI (m.c 2 0),zI (m.c 2 1),zI (m.c 2 2),zI (m.c 2 3),zI (m.c 3 0),zI (m.c 3 1),zI (m.c 3 2),zI (m.c 3 3)]⟩) [2] [] [] awt ⟨_,_,rfl,rfl,by rw[←hI.fin av3],rfl⟩
theorem SY:qO:=fun hl hn hp=>ag1 hl hn hp
theorem Bh:∀(l:List Int) (a:Int),l.foldl min a=a∨l.foldl min a∈l
 | [],_=> .inl rfl
 |y::l,a=>by
  simp only[List.foldl_cons]
  rcases Bh l (min a y) with h|h
  ·rw[h]
   rcases(by omega:min a y=a∨min a y=y) with e|e
   ·exact .inl e
   rw[e];exact .inr List.mem_cons_self
  exact .inr (List.mem_cons_of_mem _ h)
theorem Ra:∀ {l:List Int},l≠[]→u6 l∈l
 | [],h=>absurd rfl h
 |y::l,_=>by
  show l.foldl min y∈_
  rcases Bh l y with h|h
  ·rw[h];exact List.mem_cons_self
  exact List.mem_cons_of_mem _ h
theorem Lf{l m:List Int}(h:l.Perm m)(hl:l≠[]):u6 l=u6 m:=by
 have h1:=Ns (h.mem_iff.1 (Ra hl))
 have h2:=Ns (h.mem_iff.2 (Ra (fun e=>hl (by rw[e] at h;exact h.eq_nil))))
 omega
theorem H3:∀(l:List Int) (a:Int),a≤l.foldl max a∧∀x∈l,x≤l.foldl max a
 | [],a=>⟨Int.le_refl _,fun _ h=>(by cases h)⟩
 |y::l,a=>by
  obtain⟨h1,h2⟩:=H3 l (max a y)
  refine⟨by simp only[List.foldl_cons];omega,fun x hx=>?_⟩
  rcases List.mem_cons.1 hx with rfl|hx
  ·simp only[List.foldl_cons];omega
  exact h2 x hx
theorem Bi:∀(l:List Int) (a:Int),l.foldl max a=a∨l.foldl max a∈l
 | [],_=> .inl rfl
 |y::l,a=>by
  simp only[List.foldl_cons]
  rcases Bi l (max a y) with h|h
  ·rw[h]
   rcases(by omega:max a y=a∨max a y=y) with e|e
   ·exact .inl e
   rw[e];exact .inr List.mem_cons_self
  exact .inr (List.mem_cons_of_mem _ h)
theorem YC{l:List Int}(h:x∈l):x≤Cw l:=by
 cases l with
 |nil=>cases h
 |cons y l=>
  rcases List.mem_cons.1 h with rfl|h
  ·exact(H3 l _).1
  exact(H3 l _).2 x h
theorem Rb:∀ {l:List Int},l≠[]→Cw l∈l
 | [],h=>absurd rfl h
 |y::l,_=>by
  show l.foldl max y∈_
  rcases Bi l y with h|h
  ·rw[h];exact List.mem_cons_self
  exact List.mem_cons_of_mem _ h
theorem aby{l m:List Int}(h:l.Perm m)(hl:l≠[]):Cw l=Cw m:=by
 have h1:=YC (h.mem_iff.1 (Rb hl))
 have h2:=YC (h.mem_iff.2 (Rb (fun e=>hl (by rw[e] at h;exact h.eq_nil))))
 omega
theorem Nw{f:α→β}{l:List α}(h:l≠[]):l.map f≠[]:=fun e=>h (List.map_eq_nil_iff.1 e)
abbrev fsT:List bM:=[⟨2,1,true⟩,⟨0,1,true⟩]
theorem cC(h:0≤n∧n≤4):jz (aV n):=asq (fs:=[]) h (by decide) (by simp) .nil
theorem cV:ee (aV n):=asp (fs:=[]) (by decide) (by simp)
theorem cCT:jz (Ec 2 fsT):=asq (by decide) (by decide) (by decide) (by decide)
theorem cVT:ee (Ec 2 fsT):=asp (by decide) (by decide)
theorem rT:cm (aV 2)=4:=by kernel_rfl
theorem rL:u6 ((cU (aV 1) (aP (aV 1)) (fun _=>true) (cH (aV 1))).map Gi)=2:=by kernel_rfl
theorem rLn:(cU (aV 1) (aP (aV 1)) (fun _=>true) (cH (aV 1))).length=0→False:=by
 have e:Nat.beq (cU (aV 1) (aP (aV 1)) (fun _=>true) (cH (aV 1))).length 0=false:=by kernel_rfl
 intro h;rw[h] at e;cases e
theorem r1n:(cU (aV 1) (aP (aV 1)) (cz (aV 1).gone (aV 1).new (aV 1).af) (cH (aV 1))).length=0→False:=by
 have e:Nat.beq (cU (aV 1) (aP (aV 1)) (cz (aV 1).gone (aV 1).new (aV 1).af) (cH (aV 1))).length 0=false:=by kernel_rfl
 intro h;rw[h] at e;cases e
theorem r2n:(cU (aV 2) (aP (aV 2)) (cz (aV 2).gone (aV 2).new (aV 2).af) (cH (aV 2))).length=0→False:=by
 have e:Nat.beq (cU (aV 2) (aP (aV 2)) (cz (aV 2).gone (aV 2).new (aV 2).af) (cH (aV 2))).length 0=false:=by kernel_rfl
 intro h;rw[h] at e;cases e
theorem rM1:u6 ((cU (aV 2) (aP (aV 2)) (cz (aV 2).gone (aV 2).new (aV 2).af) (cH (aV 2))).map fun x=>x.af)=0:=by kernel_rfl
theorem rM2:Cw ((cU (aV 2) (aP (aV 2)) (cz (aV 2).gone (aV 2).new (aV 2).af) (cH (aV 2))).map fun x=>x.af)=2:=by kernel_rfl
theorem rU:pw (ax (cU (aV 1) (aP (aV 1)) (cz (aV 1).gone (aV 1).new (aV 1).af) (cH (aV 1)))) (((cU (aV 1) (aP (aV 1)) (cz (aV 1).gone (aV 1).new (aV 1).af) (cH (aV 1))).length:Nat):Int) (aV 1).after.length (aV 1).before.length=[[0,0],[2,1]]:=by kernel_rfl
theorem rW:p6 (Ec 2 fsT) (cH (Ec 2 fsT))=some 1:=by kernel_rfl
theorem rL1:fB 1 4=[0]:=by kernel_rfl
theorem rA:(W5 (acS (ax (cU (aV 2) (aP (aV 2)) (cz (aV 2).gone (aV 2).new (aV 2).af) (cH (aV 2)))) (((cU (aV 2) (aP (aV 2)) (cz (aV 2).gone (aV 2).new (aV 2).af) (cH (aV 2))).length:Nat):Int) (aV 2).after.length (aV 2).before.length)).2.2=(2,0):=by kernel_rfl
theorem aa1(hK:fx ro l (aV 2)):Ae zT 10 [.agg ⟨l⟩] ro [] (fun r Y=>r= .tuple ⟨[zI 4,zI 0]⟩∧Y=[]):=
 (Hf hK (cC (by decide)) cV).mono fun v X h=>⟨by rw[h.1,rT];rfl,h.2⟩
theorem ae3(hK:fx ro l (aV 1)):Ae zT 16 [.agg ⟨l⟩] ro [] (fun r Y=>r= .tuple ⟨[zI 2,zI 0]⟩∧Y=[]):=
 (an2 hK (cC (by decide)) cV).mono fun v X ⟨zs,m,e,hz,hY,hr,h⟩=>by
  rcases h with ⟨h,_⟩| ⟨h,hm,he⟩
  ·exact(rLn (by rw[←hz.length_eq,h];rfl)).elim
  exact⟨by rw[hr,hm,he,Lf (hz.map Gi) (Nw h),rL],hY⟩
theorem amN(hK:fx ro l (aV 1)):Ae zT 50 [.agg ⟨l⟩] ro [] (fun r Y=>∃v,r= .tuple ⟨[v,zI 0]⟩∧∀aD,Knows aD Y→LL aD v [[0,0],[2,1]]):=
 (avN hK cV (ox (cC (by decide))) (zy hK (cC (by decide)) cV) SY).mono fun r X ⟨zs,v,e,hz,hr,h⟩=>by
  rcases h with ⟨h,_⟩| ⟨h,he,hl⟩
  ·exact(r1n (by rw[←hz.length_eq,h];rfl)).elim
  refine⟨v,by rw[hr,he],fun aD hk=>?_⟩
  have:=hl aD hk
  rwa[Bw hz,hz.length_eq,rU] at this
theorem ae2(hK:fx ro l (aV 2)):Ae zT 20 [.agg ⟨l⟩] ro [] (fun r Y=>r= .tuple ⟨[.agg ⟨[zI 0,zI 2]⟩,zI 0]⟩∧Y=[]):=
 (avP hK cV (ox (cC (by decide))) (zy hK (cC (by decide)) cV)).mono fun r X ⟨zs,a,b,e,hz,hY,hr,h⟩=>by
  rcases h with ⟨h,_⟩| ⟨h,ha,hb,he⟩
  ·exact(r2n (by rw[←hz.length_eq,h];rfl)).elim
  exact⟨by rw[hr,ha,hb,he,Lf (hz.map _) (Nw h),aby (hz.map _) (Nw h),rM1,rM2],hY⟩
theorem aui(hK:fx ro l (aV 2)):Ae zT 54 [.agg ⟨l⟩] ro [] (fun r Y=>∃a b,r= .tuple ⟨[zI a,zI b,zI 2,zI 0]⟩∧Y=[]):=
 (aPC hK cV (ox (cC (by decide))) (zy hK (cC (by decide)) cV) SY).mono fun r X ⟨zs,a,b,w,e,hz,hY,hr,h⟩=>by
  rcases h with ⟨h,_⟩| ⟨h,ha⟩
  ·exact(r2n (by rw[←hz.length_eq,h];rfl)).elim
  rw[Bw hz,hz.length_eq] at ha
  have h2:=congrArg (fun x:Int×Int×Int×Int=>x.2.2) ha
  dsimp only at h2
  rw[rA] at h2
  cases h2
  exact⟨a,b,hr,hY⟩
theorem ae1(hK:fx ro l (Ec 2 fsT)):dG zT 51 [.agg ⟨l⟩] ro [] (fun r Y=>∃v,r= .tuple ⟨[v,zI 0]⟩∧aw v 1 3 cy [0] Y):=
 Fn.mono (avw hK cVT (ox cCT) (zy hK cCT cVT) (by decide)) fun en s' ⟨r,X,h1,h2,v,e,hr,h⟩=>⟨r,X,h1,h2,by
  rcases h with ⟨m,hm,ho,he⟩| ⟨hm,_⟩
  ·rw[rW] at hm;cases hm
   rw[rL1] at ho
   exact⟨v,by rw[hr,he],ho⟩
  rw[rW] at hm;cases hm⟩
theorem agE{v4 vf:Value}{fa:Option Addr}(h:fx ro [v0,v1,.slice fa 0 fc,v3,v4,v5,v6,v7,zI 1,zI 1,zI n,vb] (aV n))(hf:bB ro vf 3 mY fs):fx ro [v0,v1,.slice fa 0 fc,v3,v4,v5,v6,v7,zI 1,zI 1,zI n,vf] (Ec n fs):=by
 obtain⟨w0,w1,w3,w4,w5,w6,w7,wb,ga,gc,hv,e,h1,h2,h3,h4,h5,h6,h7,_⟩:=h
 cases e
 exact⟨_,_,_,_,_,_,_,_,_,_,hv,rfl,h1,h2,h3,h4,h5,h6,h7,hf⟩
theorem PO{v4:Value}{fa fb:Option Addr}{fn fd:Nat}(h:∀v∈[v0,v1,v3,v4,v5,v6,v7,vb],single v=true):∀v∈[v0,v1,.slice fa 0 fc,v3,v4,v5,v6,v7,zI 1,zI 1,zI 2,.slice fb fn fd],single v=true:=by
 simp only[List.mem_cons,List.not_mem_nil,or_false] at h ⊢
 rintro v (rfl|rfl|rfl|rfl|rfl|rfl|rfl|rfl|rfl|rfl|rfl|rfl)<;>first|rfl|exact h _ (by simp)
theorem LL.up{aD:Nat→Option Obj}{v:Value}{W:List (List Int)}(h:LL ro v W)(hs:Sub ro aD):LL aD v W:=by
 obtain⟨ws,h1,h2⟩:=h
 exact⟨ws,h1.up hs,h2.imp fun _ _ k=>k.up hs⟩
theorem aIi(a b c d:Int):EqV zT 61 (.agg ⟨[zI a,zI b]⟩) (.agg ⟨[zI c,zI d]⟩) (a==c&&(b==d&&true)):=
 Ol (uA (dep:=9999) (m9 Tryz.typeInfo61 Tryz.underlying61 rfl rfl rfl rfl rfl rfl) Tryz.stoodInHeld61 (.cons (by decide) (j8 mz rfl) (j8 mz rfl) (n9 mz _ _) (.cons (by decide) (j8 mz rfl) (j8 mz rfl) (n9 mz _ _) .nil)))
theorem aPi:oe zT 61:=by unfold oe;kernel_rfl
theorem XZ:Ae zT 14 [] ro [] (fun r Y=>r= .bool true∧Y=[]):=by
 refine CJ ar [] [] aW fun fr=>zD 6<|jc (vs:=[zI 2]) [] (Ms) ?_
 rintro _ Y16 ⟨l16,rfl,aTE,EU⟩
 refine jf [0] Y16 (fun yN bZ iL=>?_)
 have aT0:=aTE _ iL
 refine Pa (vs:=[(.agg ⟨l16⟩)]) [] (fun _ _ h=>h) (aa1 aT0) ?_
 rintro _ _ ⟨rfl,rfl⟩
 refine jg 0 []<|zD 8<|jc (vs:=[zI 1]) [] (Ms) ?_
 rintro _ Y21 ⟨l21,rfl,aTD,ao2⟩
 refine jf [0] Y21 (fun ro6 kA Zl=>?_)
 have ao3:=aTD _ Zl
 refine Pa (vs:=[(.agg ⟨l21⟩)]) [] (fun _ _ h=>h) (amN ao3) ?_
 rintro _ Y22 ⟨v22,rfl,aRI⟩
 refine zD 5<|jf [0] Y22 (fun ro9 sj hk8=>?_)
 have aTF:=aRI _ hk8
 refine zD 3<|jc (vs:=[zI 2]) [] (Ms) ?_
 rintro _ Y26 ⟨wq,rfl,aTC,ET⟩
 refine jf [0] Y26 (fun ba4 Hr aRW=>?_)
 have aTZ:=aTC _ aRW
 refine Pa (vs:=[(.agg ⟨wq⟩)]) [] (fun _ _ h=>h) (ae2 aTZ) ?_
 rintro _ _ ⟨rfl,rfl⟩
 refine jg 0 []<|zD 3<|jn fun b5=>jd 5 [0]<|jc (vs:=[zI 1]) [] (Ms) ?_
 rintro _ Y31 ⟨Rn,rfl,aTB,So⟩
 refine jf [0] Y31 (fun aNa ahr ab2=>?_)
 have aTY:=aTB _ ab2
 refine Pa (vs:=[(.agg ⟨Rn⟩)]) [] (fun _ _ h=>h) (ae3 aTY) ?_
 rintro _ _ ⟨rfl,rfl⟩
 refine jg 0 []<|zD 8<|jc (vs:=[zI 2]) [] (Ms) ?_
 rintro _ Y36 ⟨l36,rfl,aTA,N2⟩
 refine jp (vs:=[zI 2,zI 1,.bool true]) [] [] (fun aG hs hZ=>aIy)<|jp (vs:=[zI 0,zI 1,.bool true]) [] [] (fun aG hs hZ=>aIy)<|jn fun b39=>jf [1,0] (Y36++[(b39,.cells ⟨[zI 2,zI 1,.bool true,zI 0,zI 1,.bool true]⟩ 100 (0,0))]) (fun ba1 aFe ab1=>?_)
 have aTW:=aTA _ (Knows.left ab1)
 have aSc:=bU (sz:=3) (enc:=mY) (T:=100) [⟨2,1,true⟩,⟨0,1,true⟩] (Knows.right ab1 _ (.head _)) (fun _ _=>rfl)
 obtain⟨v0,v1,v3,v4,v5,v6,v7,vb,fa,fc,rfl,aQP⟩:=N2
 refine jp (vs:=[.agg ⟨[v0,v1,(.slice fa 0 fc),v3,v4,v5,v6,v7,zI 1,zI 1,zI 2,vb]⟩,(.slice (some ⟨b39,0,none⟩) 2 2)]) [] [] (fun aG hs hZ=>aIx (PO aQP))<|jc (vs:=[.agg ⟨[v0,v1,(.slice fa 0 fc),v3,v4,v5,v6,v7,zI 1,zI 1,zI 2,(.slice (some ⟨b39,0,none⟩) 2 2)]⟩]) [] (ae1 (agE aTW aSc)) ?_
 rintro _ Y41 ⟨v41,rfl,aRk⟩
 refine zD 8<|jc (vs:=[zI 2]) [] (Ms) ?_
 rintro _ Y45 ⟨l45,rfl,aTz,ao1⟩
 refine jf [0] Y45 (fun baZ aFd aRT=>?_)
 have aTV:=aTz _ aRT
 refine Pa (vs:=[(.agg ⟨l45⟩)]) [] (fun _ _ h=>h) (aui aTV) ?_
 rintro _ _ ⟨qa,qb,rfl,rfl⟩
 refine jg 0 []<|jd 49 [1]<|jeq aPi (aIi 0 2 0 2)<|zD 3<|jn fun b92=>jn fun b93=>jn fun b94=>jf [2,1,0] ((b92,.cells ⟨[zI 0,zI 0]⟩ 3 (0,0))::((b93,.cells ⟨[zI 2,zI 1]⟩ 3 (0,0))::[(b94,.cells ⟨[.slice (some ⟨b92,0,none⟩) 2 2,.slice (some ⟨b93,0,none⟩) 2 2]⟩ 22 (0,0))])) (fun baY aFc axl=>?_)
 obtain⟨wsM,hsM,haM⟩:=aTF.up ((((Hr.trans ahr).trans aFe).trans aFd).trans aFc)
 have aQj:=bU (sz:=1) (enc:=fw) (T:=22) [.slice (some ⟨b92,0,none⟩) 2 2,.slice (some ⟨b93,0,none⟩) 2 2] (axl _ (.tail _ (.tail _ (.head _)))) (fun _ _=>rfl)
 have aTr:=bU (sz:=1) (enc:=cy) (T:=3) [0,0] (axl _ (.head _)) (fun _ _=>rfl)
 have aTq:=bU (sz:=1) (enc:=cy) (T:=3) [2,1] (axl _ (.tail _ (.head _))) (fun _ _=>rfl)
 refine jp (vs:=[v22,(.slice (some ⟨b94,0,none⟩) 2 2)]) [] [] (fun aG hs hZ=>(show du _ _ _ _ (.bool (EY [[0,0],[2,1]] [[0,0],[2,1]])) from ayW (hsM.up hs) (aQj.up hs) (haM.imp fun _ _ h=>h.up hs) (.cons (aTr.up hs) (.cons (aTq.up hs) .nil)) (by decide) (by decide) (by decide) (by decide)))<|zD 3<|jn fun b99=>jp (vs:=[v41,.slice (some ⟨b99,0,none⟩) 1 1]) [1,0] (Y41++[(b99,.cells ⟨([0].map cy).flatten⟩ 3 (0,0))]) (fun aG hs hZ=>(show du _ _ _ _ (.bool (D9 [0] [0])) from akg (aRk.jF hZ.left) (bU [0] hZ.right.head (by intro p hp;rfl)) (by decide) (by decide))) ?_
 refine zD 4<|O9 qC.a.a.a.a.a.a.a.a (.bool true) [3] [] (((((((bZ.trans kA).trans sj).trans Hr).trans ahr).trans aFe).trans aFd).trans aFc) ⟨rfl,rfl⟩
theorem Zu{n:Nat}(hn:n≤4)(hi:i <n):hasB (IntKind.u8.wrap (dz .u8 1 (n:Int)-1)) i=true:=by
 have h:(n=1∧i=0)∨(n=2∧(i=0∨i=1))∨(n=3∧(i=0∨i=1∨i=2))∨(n=4∧(i=0∨i=1∨i=2∨i=3)):=by omega
 rcases h with ⟨rfl,rfl⟩| ⟨rfl,rfl|rfl⟩| ⟨rfl,rfl|rfl|rfl⟩| ⟨rfl,rfl|rfl|rfl|rfl⟩<;>rfl
def sU(a b:Int)(l:List bM):Bool:=l.any fun x=>(decide (x.a=a)&&decide (x.b=b))&& !x.same
def lM(p:Nat→Int)(l:List bM):Bool:=l.all fun x=> !x.same||decide (p x.a.toNat=x.b+1)
theorem XL{on:Int}{a b:Int}:∀ {l:List bM} {k:Nat},(∀j,j <l.length→hasB on ((k+j:Nat):Int)=true)→xW on a b l k=sU a b l
 | [],_,_=>rfl
 |x::l,k,h=>by
  have h0:=h 0 (Nat.zero_lt_succ _)
  have ih:=XL (a:=a) (b:=b) (l:=l) (k:=k+1) fun j hj=>by
   have:=h (j+1) (Nat.succ_lt_succ hj)
   rwa[show k+1+j=k+(j+1) by omega]
  simp only[Nat.add_zero] at h0
  simp only[xW,h0,ih,sU,List.any_cons,Bool.true_and]
theorem Kt{on:Int}{p:Nat→Int}:∀ {l:List bM} {k:Nat},(∀j,j <l.length→hasB on ((k+j:Nat):Int)=true)→j7 on p l k=lM p l
 | [],_,_=>rfl
 |x::l,k,h=>by
  have h0:=h 0 (Nat.zero_lt_succ _)
  have ih:=Kt (p:=p) (l:=l) (k:=k+1) fun j hj=>by
   have:=h (j+1) (Nat.succ_lt_succ hj)
   rwa[show k+1+j=k+(j+1) by omega]
  simp only[Nat.add_zero] at h0
  simp only[j7,h0,ih,lM,List.all_cons,Bool.true_and]
  cases x.same<;>cases decide (p x.a.toNat=x.b+1)<;>simp
def fC(F:Nat→Nat→Bool)(R:(Nat→Int)→Bool)(na:Nat):Nat→Nat→(Nat→Int)→List (Nat→Int)
 |0,_,p=>bif R p then [p] else []
 |n+1,a,p=>fC F R na n (a+1) p++(List.range na).flatMap fun b=>bif !F a b||qx p a ((b:Int)+1) then [] else fC F R na n (a+1) (ij p a ((b:Int)+1))
def pO(K:aC)(a b:Nat):Bool:=match K.before[a]?,K.after[b]? with
 |some x,some y=> !mP K x y&&(!qK K x y&& !sU a b K.facts)
 |_,_=>false
theorem apm(h:K.facts.length≤4)(a b:Nat):dc K (aP K) a b=pO K a b:=by
 have e:xW (aP K) a b K.facts 0=sU a b K.facts:=XL fun j hj=>by
  rw[Nat.zero_add];exact Zu h hj
 simp only[dc,pO,e]
 cases K.before[a]?<;>cases K.after[b]?<;>rfl
theorem mJ(h:K.facts.length≤4):∀(n a:Nat) (p:Nat→Int),gB K (aP K) n a p=fC (pO K) (fun p=>lM p K.facts) K.after.length n a p
 |0,a,p=>by
  have e:j7 (aP K) p K.facts 0=lM p K.facts:=Kt fun j hj=>by
   rw[Nat.zero_add];exact Zu h hj
  simp only[gB,fC,e]
 |n+1,a,p=>by
  simp only[gB,fC,apm h,mJ h n]
theorem Bs:∀ {l m:List Int},D9 l m=true↔l=m
 | [],[]=>by simp[D9]
 | [],y::m=>by simp[D9]
 |x::l,[]=>by simp[D9]
 |x::l,y::m=>by simp[D9,Bs (l:=l) (m:=m)]
def CL(a:Nat):Nat→List Int→List Int
 |0,ys=>ys
 |j+1,ys=>if a <j+1∧kU (ys.getD (j+1) 0) (ys.getD j 0) <0 then CL a j ((ys.set (j+1) (ys.getD j 0)).set j (ys.getD (j+1) 0)) else ys
def Gn(a:Nat):Nat→Nat→List Int→List Int
 |0,_,ys=>ys
 |n+1,i,ys=>Gn a n (i+1) (CL a i ys)
def ye(a b:Int)(xs:List Int):List Int:=Gn a.toNat (b.toNat-(a+1).toNat) (a+1).toNat xs
theorem abJ{a:Int}(h0:0≤a)(h:¬j>a):CL a.toNat j.toNat ys=ys:=by
 cases hj:j.toNat with
 |zero=>rfl
 |succ k=>rw[CL,if_neg (fun e=>by omega)]
theorem abK{a:Int}(h0:0≤a)(hj:j>a)(hx:ys[j.toNat]?=some x) (hy:ys[(j-1).toNat]?=some y) (h:¬kU x y <0):CL a.toNat j.toNat ys=ys:=by
 have e:j.toNat=(j-1).toNat+1:=by omega
 rw[e] at hx ⊢
 rw[CL,Sz hx,Sz hy,if_neg (fun k=>h k.2)]
theorem YS{a x' y':Int}(h0:0≤a)(hj:j>a)(hx:ys[j.toNat]?=some x) (hy:ys[(j-1).toNat]?=some y) (k7:ys[j.toNat]?=some x') (Pb:ys[(j-1).toNat]?=some y') (h:kU x y <0):CL a.toNat j.toNat ys=CL a.toNat (j-1).toNat ((ys.set j.toNat y').set (j-1).toNat x'):=by
 rw[hx] at k7;rw[hy] at Pb;cases k7;cases Pb
 have e:j.toNat=(j-1).toNat+1:=by omega
 rw[e] at hx ⊢
 rw[CL,Sz hx,Sz hy,if_pos ⟨by omega,h⟩]
theorem Um{a b i:Int}(h:zs=Gn a.toNat (b.toNat-i.toNat) i.toNat ys)(hi:0≤i∧i <b):zs=Gn a.toNat (b.toNat-(i+1).toNat) (i+1).toNat (CL a.toNat i.toNat ys):=by
 rw[h,show b.toNat-i.toNat=(b.toNat-(i+1).toNat)+1 by omega,show (i+1).toNat=i.toNat+1 by omega];rfl
theorem aaK{a b i:Int}(h:zs=Gn a.toNat (b.toNat-i.toNat) i.toNat ys)(hi:¬i <b)(h0:0≤i):ys=zs:=by
 rw[h,show b.toNat-i.toNat=0 by omega];rfl
def aak(v:Value)(a b:Int)(xs:List Int)(Y:Cells):Prop:=∃ys,ys=ye a b xs∧ys.Perm xs∧aw v 1 111 uX ys Y
abbrev S0:List Int:=cd 16
abbrev S1:List Int:=[8,1,2,3,4,5,6,7,0,9,10,11,12,13,14,15]
abbrev S2:List Int:=[8,1,2,0,4,5,6,7,3,9,10,11,12,13,14,15]
abbrev S3:List Int:=[4,1,2,0,8,5,6,7,3,9,10,11,12,13,14,15]
theorem amE:ye 5 16 (ye 0 4 S3)=AE S0:=by kernel_rfl
theorem aq8{v:Value}{L:Cells}{a b:Int}(ho:aw v 1 111 uX xs L)(hN:xs.length≤100)(hM:∀m∈xs,0≤m∧m <16)(zg:0≤a∧a≤b∧b≤xs.length):dG zT 184 [v,zI a,zI b,.func (.func 94) ⟨[]⟩ ⟨[]⟩] ro L (fun r Y=>aak v a b xs Y):=by
 refine zC [.l L]<|zD 3<|ja (a+1) (by omega)<|zD 3<|dw [1,0,0] [] (fun(zz:Int×(List Int)×Cells)=>[(0,v),(1,zI a),(2,zI b),(3,.func (.func 94) ⟨[]⟩ ⟨[]⟩),(8,zI zz.1)]) (fun zz=>[.l zz.2.2]) (fun zz=>(a+1≤zz.1)∧aw v 1 111 uX zz.2.1 zz.2.2∧zz.2.1.Perm xs∧ye a b xs=Gn a.toNat (b.toNat-zz.1.toNat) zz.1.toNat zz.2.1) (fun zz=>(b-zz.1).toNat) (⟨(a+1),xs,L⟩) ⟨by dsimp only;omega,ho,.refl _,rfl⟩ [0] ?_
 rintro⟨i,ys,L⟩ hI K1 bG rest
 dsimp only at hI
 have Rz:=hI.2.2.1.length_eq
 have hym:∀m∈ys,0≤m∧m <16:=fun m hm=>hM m (hI.2.2.1.mem_iff.1 hm)
 refine zD 7<|zJ 14 (i <b) (fun h1=>?_) fun h1=>?_
 ·
  refine zD 10<|dw [1,0,0,1,0,0,1,0,0] [K1] (fun(zz:Int×(List Int)×Cells)=>[(0,v),(1,zI a),(2,zI b),(3,.func (.func 94) ⟨[]⟩ ⟨[]⟩),(8,zI i),(9,zI zz.1)]) (fun zz=>[.l zz.2.2]) (fun zz=>(a≤zz.1∧zz.1≤i)∧aw v 1 111 uX zz.2.1 zz.2.2∧zz.2.1.Perm xs∧ye a b xs=Gn a.toNat (b.toNat-(i+1).toNat) (i+1).toNat (CL a.toNat zz.1.toNat zz.2.1)) (fun zz=>(zz.1-a).toNat) (⟨i,ys,L⟩) ⟨by dsimp only;omega,hI.2.1,hI.2.2.1,Um hI.2.2.2 (by omega)⟩ [0] ?_
  rintro⟨j,ys,L⟩ hJ K2 jV rest
  dsimp only at hJ
  have Rz:=hJ.2.2.1.length_eq
  have hym:∀m∈ys,0≤m∧m <16:=fun m hm=>hM m (hJ.2.2.1.mem_iff.1 hm)
  refine zD 7<|js 3 (decide (j>a)) (fun h2=>?_) (fun h2=>?_)
  ·
   have k9:=h2
   replace k9:=of_decide_eq_true k9
   refine zD 3 ?_
   obtain⟨xf,ju⟩:=zG ys (j.toNat) (by first|omega| (simp only[List.length_set];omega))
   refine mW j 1 hJ.2.1 ju (Int.toNat_of_nonneg (show 0≤j∧j <((ys).length:Int) from (by first|omega| (simp only[List.length_set];omega))).1).symm (fun nS VZ=>?_)
   refine ki 0 [0] L (fun s _ hZ=>bh hJ.2.1 VZ hZ ju)<|zD 2<|ja (j-1) (by omega) ?_
   obtain⟨kB,fS⟩:=zG ys ((j-1).toNat) (by first|omega| (simp only[List.length_set];omega))
   refine mW (j-1) 1 hJ.2.1 fS (Int.toNat_of_nonneg (show 0≤(j-1)∧(j-1) <((ys).length:Int) from (by first|omega| (simp only[List.length_set];omega))).1).symm (fun b30 NZ=>?_)
   refine ki 0 [0] L (fun s _ hZ=>bh hJ.2.1 NZ hZ fS)<|aS 14 fun oP oR nK=>jp (vs:=[.int .u8 xf,.int .u8 kB]) [] [] (fun aG hs hZ=>(Rg (hym _ (zL ju)) (hym _ (zL fS))))<|eG nK [0]<|zD 3<|zJ 34 ((kU xf kB) <0) (fun h4=>?_) fun h4=>?_
   ·
    refine zD 9<|ja (j-1) (by omega)<|zD 2<|ja (j-1) (by omega) ?_
    obtain⟨sJ,sa⟩:=zG ys ((j-1).toNat) (by first|omega| (simp only[List.length_set];omega))
    refine mW (j-1) 1 hJ.2.1 sa (Int.toNat_of_nonneg (show 0≤(j-1)∧(j-1) <((ys).length:Int) from (by first|omega| (simp only[List.length_set];omega))).1).symm (fun b45 VY=>?_)
    refine ki 0 [0] L (fun s _ hZ=>bh hJ.2.1 VY hZ sa)<|zD 2 ?_
    obtain⟨Em,wy⟩:=zG ys (j.toNat) (by first|omega| (simp only[List.length_set];omega))
    refine mW j 1 hJ.2.1 wy (Int.toNat_of_nonneg (show 0≤j∧j <((ys).length:Int) from (by first|omega| (simp only[List.length_set];omega))).1).symm (fun b49 VX=>?_)
    refine ki 0 [0] L (fun s _ hZ=>bh hJ.2.1 VX hZ wy) ?_
    obtain⟨x51,y4⟩:=zG ys (j.toNat) (by first|omega| (simp only[List.length_set];omega))
    refine mW j 1 hJ.2.1 y4 (Int.toNat_of_nonneg (show 0≤j∧j <((ys).length:Int) from (by first|omega| (simp only[List.length_set];omega))).1).symm (fun b51 VW=>?_)
    refine aS 15 fun qU qV pK=>Fp 0 0 [.int .u8 sJ] sJ hJ.2.1 VW y4 rfl rfl (Nat.le_of_ble_eq_true rfl) fun L6 TJ=>gx pK [] ?_
    obtain⟨x52,th⟩:=zG ((ys.set j.toNat sJ)) ((j-1).toNat) (by first|omega| (simp only[List.length_set];omega))
    refine mW (j-1) 1 TJ th (Int.toNat_of_nonneg (show 0≤(j-1)∧(j-1) <(((ys.set j.toNat sJ)).length:Int) from (by first|omega| (simp only[List.length_set];omega))).1).symm (fun b52 VV=>?_)
    refine aS 17 fun yz yF zh=>Fp 0 0 [.int .u8 Em] Em TJ VV th rfl rfl (Nat.le_of_ble_eq_true rfl) fun L9 NR=>fW zh<|zD 3<|ja (j-1) (by omega)<|zD 2<|bF jV (⟨(j-1),((ys.set j.toNat sJ).set ((j-1).toNat) Em),L9⟩) ⟨by dsimp only;omega,NR,(lY wy sa).trans hJ.2.2.1,by dsimp only;rw[hJ.2.2.2,YS (by omega) (by omega) ju fS wy sa (by assumption)]⟩ (by dsimp only;omega) [0] (Sub.refl _)
   refine zD 4<|ja (i+1) (by omega)<|zD 2<|bF bG (⟨(i+1),ys,L⟩) ⟨by dsimp only;omega,hJ.2.1,hJ.2.2.1,by dsimp only;rw[hJ.2.2.2,abK (by omega) (by omega) ju fS (by assumption)]⟩ (by dsimp only;omega) [0] (Sub.refl _)
  have k9:=h2
  replace k9:=of_decide_eq_false k9
  refine zD 18<|ja (i+1) (by omega)<|zD 2<|bF bG (⟨(i+1),ys,L⟩) ⟨by dsimp only;omega,hJ.2.1,hJ.2.2.1,by dsimp only;rw[hJ.2.2.2,abJ (by omega) (by omega)]⟩ (by dsimp only;omega) [0] (Sub.refl _)
 refine zD 2<|zR (.tuple ⟨[]⟩) [] [0] L ⟨ys,aaK hI.2.2.2 (by omega) (by omega),hI.2.2.1,hI.2.1⟩
theorem Gt:∀m∈S0,0≤m∧m <16:=by decide
theorem aeP:∀x y,S0[(8:Int).toNat]?=some x→S0[(4:Int).toNat]?=some y→¬kU x y <0:=fun x y hx hy=>by cases hx;cases hy;decide
theorem at3:∀x y,S0[(12:Int).toNat]?=some x→S0[(8:Int).toNat]?=some y→¬kU x y <0:=fun x y hx hy=>by cases hx;cases hy;decide
theorem agm{v:Value}{a b:Int}(hf:bB ro v 1 uX xs)(hM:∀m∈xs,0≤m∧m <16)(hn:xs.length≤100)(zg:(0≤a∧a <xs.length)∧0≤b∧b <xs.length)(cJ:∀x y,xs[b.toNat]?=some x→xs[a.toNat]?=some y→¬kU x y <0):du zT 270 [v,zI a,zI b,zP q,.func (.func 94) ⟨[]⟩ ⟨[]⟩] ro (.tuple ⟨[zI a,zI b]⟩):=by
 obtain⟨gP,vY,vX,fP,rfl,AM,qQ,qP⟩:=hf
 refine zE<|zD 11 ?_
 obtain⟨ya,JK⟩:=zG xs (b.toNat)
 refine I4 b fP 1 qQ JK (Int.toNat_of_nonneg (show 0≤b∧b <((xs).length:Int) from (by omega)).1).symm<|jl 0 (qP _ _ JK)<|zD 2 ?_
 obtain⟨BY,sb⟩:=zG xs (a.toNat)
 refine I4 a fP 1 qQ sb (Int.toNat_of_nonneg (show 0≤a∧a <((xs).length:Int) from (by omega)).1).symm<|jl 0 (qP _ _ sb)<|aS 9 fun BX B6 An=>jp (vs:=[.int .u8 ya,.int .u8 BY]) [] [] (fun aG hs hZ=>(Rg (hM _ (zL JK)) (hM _ (zL sb))))<|eG An []<|zD 2<|zJ 22 ((kU ya BY) <0) (fun h2=>?_) fun h2=>?_
 ·
  exfalso;exact cJ _ _ JK sb (by assumption)
 refine zD 10<|zX (.tuple ⟨[zI a,zI b]⟩) ⟨rfl,rfl⟩
theorem aPs{v:Value}(hf:bB ro v 1 uX S0):du zT 242 [v,zI 4,zI 8,zI 12,zP q,.func (.func 94) ⟨[]⟩ ⟨[]⟩] ro (zI 8):=by
 obtain⟨gP,vY,vX,fP,rfl,AM,qQ,qP⟩:=hf
 refine zE<|zD 11<|jp (vs:=[.slice gP S0.length fP,zI 4,zI 8,zP q,.func (.func 94) ⟨[]⟩ ⟨[]⟩]) [] [] (fun aG hs hZ=>(agm (a:=4) (b:=8) (q:=q) ((show bB _ _ _ _ _ from ⟨gP,vY,vX,fP,rfl,AM,qQ,qP⟩).up hs) Gt (by decide) (by decide) (aeP)))<|zD 13<|jp (vs:=[.slice gP S0.length fP,zI 8,zI 12,zP q,.func (.func 94) ⟨[]⟩ ⟨[]⟩]) [] [] (fun aG hs hZ=>(agm (a:=8) (b:=12) (q:=q) ((show bB _ _ _ _ _ from ⟨gP,vY,vX,fP,rfl,AM,qQ,qP⟩).up hs) Gt (by decide) (by decide) (at3)))<|zD 13<|jp (vs:=[.slice gP S0.length fP,zI 4,zI 8,zP q,.func (.func 94) ⟨[]⟩ ⟨[]⟩]) [] [] (fun aG hs hZ=>(agm (a:=4) (b:=8) (q:=q) ((show bB _ _ _ _ _ from ⟨gP,vY,vX,fP,rfl,AM,qQ,qP⟩).up hs) Gt (by decide) (by decide) (aeP)))<|zD 12<|zX (zI 8) ⟨rfl,rfl⟩
theorem aCo{i:Int}(hi:1≤i∧i≤4)(hx:S0[i.toNat]?=some x) (hy:S0[(i-1).toNat]?=some y) (h:¬kU x y <0):i≤3:=by
 by_cases e:i=4
 ·subst e
  cases hx;cases hy
  exact absurd h (by decide)
 omega
theorem anG{v:Value}(hf:bB ro v 1 uX S0):du zT 187 [v,zI 0,zI 16,.func (.func 94) ⟨[]⟩ ⟨[]⟩] ro (.tuple ⟨[zI 8,zI 1]⟩):=by
 obtain⟨gP,vY,vX,fP,rfl,AM,qQ,qP⟩:=hf
 refine zE<|zD 14<|jn fun OJ=>zD 5<|je (zI 4) rfl<|zD 8<|je (zI 4) rfl<|zD 8<|je (zI 4) rfl<|zD 25<|jp (vs:=[.slice gP S0.length fP,zI 4,zI 8,zI 12,zP OJ,.func (.func 94) ⟨[]⟩ ⟨[]⟩]) [] [] (fun aG hs hZ=>(aPs (q:=OJ) ((show bB _ _ _ _ _ from ⟨gP,vY,vX,fP,rfl,AM,qQ,qP⟩).up hs)))<|jd 20 [0]<|zX (.tuple ⟨[zI 8,zI 1]⟩) ⟨rfl,rfl⟩
theorem aEe{v:Value}(hf:bB ro v 1 uX S0):du zT 189 [v,zI 0,zI 16,.func (.func 94) ⟨[]⟩ ⟨[]⟩] ro (.bool false):=by
 obtain⟨gP,vY,vX,fP,rfl,AM,qQ,qP⟩:=hf
 have Hq:S0.length=16:=rfl
 refine zE<|zD 16<|dw [1,1,0,1,0,0] [] (fun(zz:Nat)=>[(0,.slice gP S0.length fP),(1,zI 0),(2,zI 16),(3,.func (.func 94) ⟨[]⟩ ⟨[]⟩),(9,zI 1),(10,zI 0)]) (fun zz=>[]) (fun zz=>True) (fun zz=>zz) 0 trivial [] ?_
 rintro z hI K1 bG rest
 refine zD 12<|dw [1,1,0,1,0,0,1,0,0,0,0,0] [K1] (fun(zz:Int)=>[(0,.slice gP S0.length fP),(1,zI 0),(2,zI 16),(3,.func (.func 94) ⟨[]⟩ ⟨[]⟩),(9,zI zz),(10,zI 0)]) (fun zz=>[]) (fun zz=>1≤zz∧zz≤4) (fun zz=>(5-zz).toNat) 1 ⟨by omega,by omega⟩ [] ?_
 rintro i hI K2 jV rest
 refine zD 7<|js 3 (decide (i <16)) (fun h1=>?_) (fun h1=>?_)
 ·
  have fq:=h1
  replace fq:=of_decide_eq_true fq
  refine zD 3 ?_
  obtain⟨MA,A6⟩:=zG S0 (i.toNat)
  refine I4 i fP 1 qQ A6 (Int.toNat_of_nonneg (show 0≤i∧i <((S0).length:Int) from (by omega)).1).symm<|jl 0 (qP _ _ A6)<|zD 2<|ja (i-1) (by omega) ?_
  obtain⟨x31,NM⟩:=zG S0 ((i-1).toNat)
  refine I4 (i-1) fP 1 qQ NM (Int.toNat_of_nonneg (show 0≤(i-1)∧(i-1) <((S0).length:Int) from (by omega)).1).symm<|jl 0 (qP _ _ NM)<|aS 14 fun oP oR nK=>jp (vs:=[.int .u8 MA,.int .u8 x31]) [] [] (fun aG hs hZ=>(Rg (Gt _ (zL A6)) (Gt _ (zL NM))))<|eG nK []<|zD 4<|js 36 (!(decide ((kU MA x31) <0))) (fun h3=>?_) (fun h3=>?_)
  ·
   try simp only[zB] at h3
   refine zD 5<|ja (i+1) (by omega)<|zD 2<|bF jV (i+1) ⟨by omega,by have:=aCo hI A6 NM (by assumption);omega⟩ (by omega) [] (Sub.refl _)
  try simp only[zB] at h3
  refine zD 9<|zJ 41 (i=16) (fun h4=>?_) fun h4=>?_
  ·
   exfalso;omega
  refine zD 16<|zX (.bool false) ⟨rfl,rfl⟩
 have fq:=h1
 replace fq:=of_decide_eq_false fq
 exfalso;omega
theorem Mt{l:List Int}(hx:l[i]?=some x) (h:l[i]?=some y):x=y:=Option.some.inj (hx.symm.trans h)
theorem MQ:∀m∈S1,0≤m∧m <16:=by decide
theorem MP:∀m∈S2,0≤m∧m <16:=by decide
theorem atY:∀m∈S3,0≤m∧m <16:=by decide
theorem aCm{i:Int}(hi:1≤i∧i≤3)(hx:S1[i.toNat]?=some x) (hy:S1[(0:Int).toNat]?=some y) (h:kU x y <0):i≤2:=by
 by_cases e:i=3
 ·subst e;cases hx;cases hy;exact absurd h (by decide)
 omega
theorem at1{i:Int}(hi:1≤i∧i≤3)(hx:S1[i.toNat]?=some x) (hy:S1[(0:Int).toNat]?=some y) (h:¬kU x y <0):i=3:=by
 rcases(by omega:i=1∨i=2∨i=3) with e|e|e
 ·subst e;cases hx;cases hy;exact absurd (show kU 1 8 <0 by decide) h
 ·subst e;cases hx;cases hy;exact absurd (show kU 2 8 <0 by decide) h
 exact e
theorem aCn(hj:8≤j∧j≤15)(hx:S1[j.toNat]?=some x) (hy:S1[(0:Int).toNat]?=some y) (h:¬kU x y <0):9≤j:=by
 by_cases e:j=8
 ·subst e;cases hx;cases hy;exact absurd (show kU 0 8 <0 by decide) h
 omega
theorem at2(hj:8≤j∧j≤15)(hx:S1[j.toNat]?=some x) (hy:S1[(0:Int).toNat]?=some y) (h:kU x y <0):j=8:=by
 rcases(by omega:j=8∨j=9∨j=10∨j=11∨j=12∨j=13∨j=14∨j=15) with e|e|e|e|e|e|e|e
 ·exact e
 all_goals (subst e;cases hx;cases hy;exact absurd h (by decide))
theorem aCl{i:Int}(hi:4≤i∧i≤5)(hx:S2[i.toNat]?=some x) (hy:S2[(0:Int).toNat]?=some y) (h:kU x y <0):i=4:=by
 by_cases e:i=5
 ·subst e;cases hx;cases hy;exact absurd h (by decide)
 omega
theorem atZ{i:Int}(hi:4≤i∧i≤5)(hx:S2[i.toNat]?=some x) (hy:S2[(0:Int).toNat]?=some y) (h:¬kU x y <0):i=5:=by
 by_cases e:i=4
 ·subst e;cases hx;cases hy;exact absurd (show kU 4 8 <0 by decide) h
 omega
theorem at0(hj:5≤j∧j≤7)(hx:S2[j.toNat]?=some x) (hy:S2[(0:Int).toNat]?=some y) (h:kU x y <0):False:=by
 rcases(by omega:j=5∨j=6∨j=7) with e|e|e<;>(subst e;cases hx;cases hy;exact absurd h (by decide))
theorem aPq{v:Value}{L:Cells}(ho:aw v 1 111 uX S0 L):dG zT 191 [v,zI 0,zI 16,zI 8,.func (.func 94) ⟨[]⟩ ⟨[]⟩] ro L (fun r Y=>r= .tuple ⟨[zI 4,.bool false]⟩∧aw v 1 111 uX S3 Y):=by
 have Hq:S0.length=16:=rfl
 have bdq:S1.length=16:=rfl
 have bdp:S2.length=16:=rfl
 refine zC [.l L]<|zD 6<|EG [1,1] [] (fun(zz:Cells)=>[(0,v),(1,zI 0),(2,zI 16),(4,.func (.func 94) ⟨[]⟩ ⟨[]⟩),(10,zI 0),(11,.bool false)]) (fun zz=>[.l zz]) (fun zz=>aw v 1 111 uX S1 zz) ?_ (fun K1 bG=>?_)
 ·
  rintro L1_ HV rest
  refine zD 11<|dw [1,1,1,0,0,0] [] (fun(zz:Int)=>[(0,v),(1,zI 0),(4,.func (.func 94) ⟨[]⟩ ⟨[]⟩),(10,zI 0),(11,.bool false),(12,zI zz),(13,zI 15)]) (fun zz=>[.l L1_]) (fun zz=>1≤zz∧zz≤3) (fun zz=>(4-zz).toNat) 1 ⟨by omega,by omega⟩ [0] ?_
  rintro i hI K2 jV rest
  refine zD 7<|js 3 (decide (i≤15)) (fun h1=>?_) (fun h1=>?_)
  ·
   have fq:=h1
   replace fq:=of_decide_eq_true fq
   refine zD 3 ?_
   obtain⟨BO,oC⟩:=zG S1 (i.toNat)
   refine mW i 1 HV oC (Int.toNat_of_nonneg (show 0≤i∧i <((S1).length:Int) from (by omega)).1).symm fun b39 ax3=>ki 0 [0] L1_ (fun s _ hZ=>bh HV ax3 hZ oC)<|zD 2 ?_
   obtain⟨x43,NJ⟩:=zG S1 0
   refine Af 1 HV NJ fun b43 ax2=>ki 0 [0] L1_ (fun s _ hZ=>bh HV ax2 hZ NJ)<|aS 13 fun oP oR nK=>jp (vs:=[.int .u8 BO,.int .u8 x43]) [] [] (fun aG hs hZ=>(Rg (MQ _ (zL oC)) (MQ _ (zL NJ))))<|eG nK [0]<|zD 3<|zJ 47 ((kU BO x43) <0) (fun h3=>?_) fun h3=>?_
   ·
    refine zD 5<|ja (i+1) (by omega)<|zD 2<|bF jV (i+1) ⟨by omega,by have:=aCm hI oC NJ (by assumption);omega⟩ (by omega) [0] (Sub.refl _)
   have hi3:=at1 hI oC NJ (by assumption)
   refine zD 4<|dw [1,1,1,1,0,0,0] [] (fun(zz:Int)=>[(0,v),(1,zI 0),(4,.func (.func 94) ⟨[]⟩ ⟨[]⟩),(10,zI 0),(11,.bool false),(12,zI i),(13,zI zz)]) (fun zz=>[.l L1_]) (fun zz=>8≤zz∧zz≤15) (fun zz=>zz.toNat) 15 ⟨by omega,by omega⟩ [0] ?_
   rintro j hJ K4 hK4 rest
   refine zD 7<|js 3 (decide (i≤j)) (fun h4=>?_) (fun h4=>?_)
   ·
    have uW:=h4
    replace uW:=of_decide_eq_true uW
    refine zD 3 ?_
    obtain⟨x57,u7⟩:=zG S1 (j.toNat)
    refine mW j 1 HV u7 (Int.toNat_of_nonneg (show 0≤j∧j <((S1).length:Int) from (by omega)).1).symm fun b57 ax1=>ki 0 [0] L1_ (fun s _ hZ=>bh HV ax1 hZ u7)<|zD 2 ?_
    obtain⟨x61,abP⟩:=zG S1 0
    refine Af 1 HV abP fun b61 aS7=>ki 0 [0] L1_ (fun s _ hZ=>bh HV aS7 hZ abP)<|aS 13 fun yz yF zh=>jp (vs:=[.int .u8 x57,.int .u8 x61]) [] [] (fun aG hs hZ=>(Rg (MQ _ (zL u7)) (MQ _ (zL abP))))<|eG zh [0]<|zD 4<|js 66 (!(decide ((kU x57 x61) <0))) (fun h6=>?_) (fun h6=>?_)
    ·
     try simp only[zB] at h6
     refine zD 5<|ja (j-1) (by omega)<|zD 2<|bF hK4 (j-1) ⟨by have:=aCn hJ u7 abP (by assumption);omega,by omega⟩ (by omega) [0] (Sub.refl _)
    try simp only[zB] at h6
    have hj8:=at2 hJ u7 abP (by assumption)
    refine zD 4 ?_
    subst hi3
    subst hj8
    refine zD 8<|EG [1,1,1,1,1,1,1] [] (fun(zz:Cells)=>[(0,v),(1,zI 0),(4,.func (.func 94) ⟨[]⟩ ⟨[]⟩),(10,zI 0),(11,.bool false),(12,zI 3),(13,zI 8)]) (fun zz=>[.l zz]) (fun zz=>aw v 1 111 uX S2 zz) ?_ (fun K6 hK6=>?_)
    ·
     rintro L2_ Zx rest
     refine zD 14<|dw [1,1,1,1,1,1,1,1,1,0,0,0] [] (fun(zz:Nat)=>[(0,v),(1,zI 0),(4,.func (.func 94) ⟨[]⟩ ⟨[]⟩),(10,zI 0),(11,.bool false),(12,zI 4),(13,zI 7)]) (fun zz=>[.l L2_]) (fun zz=>True) (fun zz=>zz) 0 trivial [0] ?_
     rintro z _ K7 hK7 rest
     refine zD 3<|dw [1,1,1,1,1,1,1,1,1,0,0,0,0,0,0,0] [K7] (fun(zz:Int)=>[(0,v),(1,zI 0),(4,.func (.func 94) ⟨[]⟩ ⟨[]⟩),(10,zI 0),(11,.bool false),(12,zI zz),(13,zI 7)]) (fun zz=>[.l L2_]) (fun zz=>4≤zz∧zz≤5) (fun zz=>(6-zz).toNat) 4 ⟨by omega,by omega⟩ [0] ?_
     rintro i hI K8 hK8 rest
     refine zD 7<|js 3 (decide (i≤7)) (fun h7=>?_) (fun h7=>?_)
     ·
      have h7g:=h7
      replace h7g:=of_decide_eq_true h7g
      refine zD 3 ?_
      obtain⟨aA5,RD⟩:=zG S2 (i.toNat)
      refine mW i 1 Zx RD (Int.toNat_of_nonneg (show 0≤i∧i <((S2).length:Int) from (by omega)).1).symm fun bfW aHb=>ki 0 [0] L2_ (fun s _ hZ=>bh Zx aHb hZ RD)<|zD 2 ?_
      obtain⟨aA4,RB⟩:=zG S2 0
      refine Af 1 Zx RB fun bfV aHa=>ki 0 [0] L2_ (fun s _ hZ=>bh Zx aHa hZ RB)<|aS 13 fun TX Ub Sn=>jp (vs:=[.int .u8 aA5,.int .u8 aA4]) [] [] (fun aG hs hZ=>(Rg (MP _ (zL RD)) (MP _ (zL RB))))<|eG Sn [0]<|zD 3<|zJ 120 ((kU aA5 aA4) <0) (fun h9=>?_) fun h9=>?_
      ·
       refine zD 5<|ja (i+1) (by omega)<|zD 2<|bF hK8 (i+1) ⟨by omega,by have:=aCl hI RD RB (by assumption);omega⟩ (by omega) [0] (Sub.refl _)
      have hi5:=atZ hI RD RB (by assumption)
      refine zD 4<|dw [1,1,1,1,1,1,1,1,1,0,0,0,0,1,0,0,0] [K7] (fun(zz:Int)=>[(0,v),(1,zI 0),(4,.func (.func 94) ⟨[]⟩ ⟨[]⟩),(10,zI 0),(11,.bool false),(12,zI i),(13,zI zz)]) (fun zz=>[.l L2_]) (fun zz=>4≤zz∧zz≤7) (fun zz=>zz.toNat) 7 ⟨by omega,by omega⟩ [0] ?_
      rintro j hJ K10 ao5 rest
      refine zD 7<|js 3 (decide (i≤j)) (fun EV=>?_) (fun EV=>?_)
      ·
       have ajx:=EV
       replace ajx:=of_decide_eq_true ajx
       refine zD 3 ?_
       obtain⟨aA3,YY⟩:=zG S2 (j.toNat)
       refine mW j 1 Zx YY (Int.toNat_of_nonneg (show 0≤j∧j <((S2).length:Int) from (by omega)).1).symm fun bfQ aG4=>ki 0 [0] L2_ (fun s _ hZ=>bh Zx aG4 hZ YY)<|zD 2 ?_
       obtain⟨aA2,YV⟩:=zG S2 0
       refine Af 1 Zx YV fun azk aG3=>ki 0 [0] L2_ (fun s _ hZ=>bh Zx aG3 hZ YV)<|aS 13 fun FH Gd zk=>jp (vs:=[.int .u8 aA3,.int .u8 aA2]) [] [] (fun aG hs hZ=>(Rg (MP _ (zL YY)) (MP _ (zL YV))))<|eG zk [0]<|zD 4<|js 139 (!(decide ((kU aA3 aA2) <0))) (fun C8=>?_) (fun C8=>?_)
       ·
        try simp only[zB] at C8
        refine zD 5<|ja (j-1) (by omega)<|zD 2<|bF ao5 (j-1) ⟨by omega,by omega⟩ (by omega) [0] (Sub.refl _)
       try simp only[zB] at C8
       exfalso;exact at0 (by omega) YY YV (by assumption)
      have ajx:=EV
      replace ajx:=of_decide_eq_false ajx
      have hj4:j=4:=by omega
      refine zD 18 ?_
      subst hj4
      refine zD 5<|zJ 144 (i>4) (fun xE=>?_) fun xE=>?_
      ·
       refine zD 3<|EG [1,1,1,1,1,1,1,1,1,1,1] [] (fun(zz:Cells)=>[(0,v),(10,zI 0),(11,.bool false),(13,zI 4)]) (fun zz=>[.l zz]) (fun zz=>aw v 1 111 uX S3 zz) ?_ (fun K12 ao4=>?_)
       ·
        rintro L3_ hE3 rest
        refine zD 7<|zR (.tuple ⟨[zI 4,.bool false]⟩) [] [0] L3_ ⟨rfl,hE3⟩
       refine zD 7 ?_
       obtain⟨adK,YU⟩:=zG S2 0
       refine Af 1 Zx YU fun bfN aG0=>ki 0 [0] L2_ (fun s _ hZ=>bh Zx aG0 hZ YU)<|zD 2 ?_
       obtain⟨as0,ahf⟩:=zG S2 4
       refine Af 1 Zx ahf fun bfL aGY=>ki 0 [0] L2_ (fun s _ hZ=>bh Zx aGY hZ ahf) ?_
       obtain⟨aZ3,ahe⟩:=zG S2 4
       refine Af 1 Zx ahe fun bfK aGX=>aS 13 fun aqj aqE N4=>Fp 0 0 [.int .u8 adK] adK Zx aGX ahe rfl rfl (Nat.le_of_ble_eq_true rfl) fun L15 aox=>gx N4 [] ?_
       obtain⟨aZ2,art⟩:=zG ((S2.set 4 adK)) 0 (by first|omega| (simp only[List.length_set,zM];omega))
       refine Af 1 aox art fun bfJ aGW=>aS 15 fun aAU aBT aym=>Fp 0 0 [.int .u8 as0] as0 aox aGW art rfl rfl (Nat.le_of_ble_eq_true rfl) fun L18 aow=>fW aym<|zD 1<|bF ao4 L18 (by obtain rfl:adK=8:=Mt YU rfl;obtain rfl:as0=4:=Mt ahf rfl;exact aow) Nat.zero_lt_one [0] (Sub.refl _)
      exfalso;omega
     have h7g:=h7
     replace h7g:=of_decide_eq_false h7g
     exfalso;omega
    refine zD 7 ?_
    obtain⟨x93,awb⟩:=zG S1 8
    refine Af 1 HV awb fun b93 aSZ=>ki 0 [0] L1_ (fun s _ hZ=>bh HV aSZ hZ awb)<|zD 2 ?_
    obtain⟨x97,av8⟩:=zG S1 3
    refine Af 1 HV av8 fun b97 aSX=>ki 0 [0] L1_ (fun s _ hZ=>bh HV aSX hZ av8) ?_
    obtain⟨x99,abN⟩:=zG S1 3
    refine Af 1 HV abN fun b99 axY=>aS 13 fun aAT aBS Wd=>Fp 0 0 [.int .u8 x93] x93 HV axY abN rfl rfl (Nat.le_of_ble_eq_true rfl) fun L21 aov=>gx Wd [] ?_
    obtain⟨aZ6,arv⟩:=zG ((S1.set 3 x93)) 8 (by first|omega| (simp only[List.length_set,zM];omega))
    refine Af 1 aov arv fun azl aHc=>aS 15 fun aqi aqD EU=>Fp 0 0 [.int .u8 x97] x97 aov aHc arv rfl rfl (Nat.le_of_ble_eq_true rfl) fun L24 aRn=>fW EU<|zD 1<|bF hK6 L24 (by obtain rfl:x93=0:=Mt awb rfl;obtain rfl:x97=3:=Mt av8 rfl;exact aRn) Nat.zero_lt_one [0] (Sub.refl _)
   have uW:=h4
   replace uW:=of_decide_eq_false uW
   exfalso;omega
  have fq:=h1
  replace fq:=of_decide_eq_false fq
  exfalso;omega
 refine zD 7 ?_
 obtain⟨TY,CQ⟩:=zG S0 8
 refine Af 1 ho CQ fun b20 aTl=>ki 0 [0] L (fun s _ hZ=>bh ho aTl hZ CQ)<|zD 2 ?_
 obtain⟨x24,awf⟩:=zG S0 0
 refine Af 1 ho awf fun FC aTj=>ki 0 [0] L (fun s _ hZ=>bh ho aTj hZ awf) ?_
 obtain⟨MA,A6⟩:=zG S0 0
 refine Af 1 ho A6 fun b26 aTi=>aS 13 fun Xm Xw C6=>Fp 0 0 [.int .u8 TY] TY ho aTi A6 rfl rfl (Nat.le_of_ble_eq_true rfl) fun L27 VA=>gx C6 [] ?_
 obtain⟨x27,CN⟩:=zG ((S0.set 0 TY)) 8 (by first|omega| (simp only[List.length_set,zM];omega))
 refine Af 1 VA CN fun b27 ax5=>aS 15 fun adE aep N3=>Fp 0 0 [.int .u8 x24] x24 VA ax5 CN rfl rfl (Nat.le_of_ble_eq_true rfl) fun L30 awO=>fW N3<|zD 1<|bF bG L30 (by obtain rfl:TY=8:=Mt CQ rfl;obtain rfl:x24=0:=Mt awf rfl;exact awO) Nat.zero_lt_one [0] (Sub.refl _)
theorem atW:(ye 0 4 S3).length=16:=by kernel_rfl
theorem atX:((ye 0 4 S3).all fun m=>decide (0≤m∧m <16))=true:=by kernel_rfl
theorem atV:∀m∈ye 0 4 S3,0≤m∧m <16:=fun m hm=>of_decide_eq_true (List.all_eq_true.1 atX m hm)
theorem aEd{v:Value}{L:Cells}{a b I2:Int}(ho:aw v 1 111 uX xs L)(hN:xs.length≤100)(hM:∀m∈xs,0≤m∧m <16)(zg:0≤a∧a≤b∧b≤xs.length)(C8:b-a≤12):dG zT 133 [v,zI a,zI b,zI I2,.func (.func 94) ⟨[]⟩ ⟨[]⟩] ro L (fun r Y=>aak v a b xs Y):=by
 refine zC [.l L]<|zD 9<|dw [1,1,0,0] [] (fun(zz:Nat)=>[(0,v),(1,zI a),(2,zI b),(3,zI I2),(4,.func (.func 94) ⟨[]⟩ ⟨[]⟩),(10,.bool true),(11,.bool true)]) (fun zz=>[.l L]) (fun zz=>True) (fun zz=>zz) 0 trivial [0] ?_
 rintro z hI K1 bG rest
 refine zD 5<|ja (b-a) (by omega)<|zD 8<|zJ 25 ((b-a)≤12) (fun h1=>?_) fun h1=>?_
 ·
  refine zD 7<|jc (vs:=[v,zI a,zI b,.func (.func 94) ⟨[]⟩ ⟨[]⟩]) [0] (aq8 ho hN hM zg) ?_
  rintro amF Y30 ⟨asT,Vy,aFp,uv⟩
  refine zD 2<|zR (.tuple ⟨[]⟩) [] [0] Y30 ⟨_,Vy,aFp,uv⟩
 exfalso;omega
theorem avl{v:Value}{L:Cells}{I2:Int}(ho:aw v 1 111 uX S0 L)(hl:1≤I2):dG zT 133 [v,zI 0,zI 16,zI I2,.func (.func 94) ⟨[]⟩ ⟨[]⟩] ro L (fun r Y=>BH v S0 Y):=by
 refine zC [.l L]<|zD 9<|dw [1,1,0,0] [] (fun(zz:Int×(List Int)×Bool×Cells)=>[(0,v),(1,zI zz.1),(2,zI 16),(3,zI I2),(4,.func (.func 94) ⟨[]⟩ ⟨[]⟩),(10,.bool true),(11,.bool zz.2.2.1)]) (fun zz=>[.l zz.2.2.2]) (fun zz=>aw v 1 111 uX zz.2.1 zz.2.2.2∧((zz.1=0∧zz.2.1=S0∧zz.2.2.1=true)∨(zz.1=5∧zz.2.1=ye 0 4 S3))) (fun zz=>(16-zz.1).toNat) (⟨0,S0,true,L⟩) ⟨ho,.inl ⟨rfl,rfl,rfl⟩⟩ [0] ?_
 rintro⟨a,ys,w,L⟩ hI K1 bG rest
 dsimp only at hI
 have ha:a=0∨a=5:=by rcases hI.2 with h|h<;>omega
 refine zD 5<|ja (16-a) (by omega)<|zD 8<|zJ 25 ((16-a)≤12) (fun h1=>?_) fun h1=>?_
 ·
  obtain⟨ha5,hys⟩:a=5∧ys=ye 0 4 S3:=by rcases hI.2 with h|h;exfalso;omega;exact h
  have Rz:ys.length=16:=by rw[hys];exact atW
  have hym:∀m∈ys,0≤m∧m <16:=by rw[hys];exact atV
  refine zD 7<|jc (vs:=[v,zI a,zI 16,.func (.func 94) ⟨[]⟩ ⟨[]⟩]) [0] (aq8 hI.1 (by omega) hym (by omega)) ?_
  rintro amF Y30 ⟨asT,Vy,aFp,uv⟩
  refine zD 2<|zR (.tuple ⟨[]⟩) [] [0] Y30 ⟨_,by rw[Vy,ha5,hys];exact amE,uv⟩
 refine zD 4 ?_
 obtain⟨rfl,rfl,rfl⟩:a=0∧ys=S0∧w=true:=by rcases hI.2 with h|h;exact h;exfalso;omega
 refine zD 4<|zJ 32 (I2=0) (fun h2=>?_) fun h2=>?_
 ·
  exfalso;omega
 refine zD 16<|jp (vs:=[v,zI 0,zI 16,.func (.func 94) ⟨[]⟩ ⟨[]⟩]) [0] L (fun aG hs hZ=>(anG (hI.1.jF hZ)))<|zD 33<|jp (vs:=[v,zI 0,zI 16,.func (.func 94) ⟨[]⟩ ⟨[]⟩]) [0] L (fun aG hs hZ=>(aEe (hI.1.jF hZ)))<|zD 33<|jc (vs:=[v,zI 0,zI 16,zI 8,.func (.func 94) ⟨[]⟩ ⟨[]⟩]) [0] (aPq hI.1) ?_
 rintro _ LP ⟨rfl,hoP⟩
 refine zD 25<|je (zI 2) rfl<|zD 23<|jc (vs:=[v,zI 0,zI 4,zI I2,.func (.func 94) ⟨[]⟩ ⟨[]⟩]) [0] (aEd (a:=0) (b:=4) (I2:=I2) hoP (by decide) atY (by decide) (by decide)) ?_
 rintro aW7 aVz ⟨aAX,aFw,aYt,aFK⟩
 refine zD 6<|bF bG (⟨5,aAX,false,aVz⟩) ⟨aFK,.inr ⟨rfl,aFw⟩⟩ (by dsimp only;decide) [0] (Sub.refl _)
theorem akV(h:K.facts.length=4):IntKind.u8.wrap (aP K+1)=((2^K.facts.length:Nat):Int):=by
 unfold aP
 rw[h]
 decide
theorem acj:du zT 193 [zU ((16:Nat):Int)] ro (zI 5):=by refine bA ar [] [] aW (zD 35 (ja 5 (by decide) (zD 3 ?_)));exact aK q0 (zI 5) [] [] [] (Sub.refl _) ⟨_,_,rfl,rfl,rfl,rfl⟩
theorem ayH:du zT 134 [zU ((16:Nat):Int)] ro (zI 5):=by
 refine zE<|zD 10<|jp (vs:=[zU ((16:Nat):Int)]) [] [] (fun aG hs hZ=>acj)<|zD 3<|zX (zI 5) ⟨rfl,rfl⟩
theorem anF{v:Value}{L:Cells}(ho:aw v 1 111 uX S0 L):dG zT 93 [v,.func (.func 94) ⟨[]⟩ ⟨[]⟩] ro L (fun r Y=>BH v S0 Y):=by
 have Hq:S0.length=16:=rfl
 refine zC [.l L]<|zD 3<|BQ ho<|zD 6<|je (zU ((16:Nat):Int)) (Xp (n:=16) (by omega))<|jp (vs:=[zU ((16:Nat):Int)]) [] [] (fun aG hs hZ=>ayH)<|zD 1<|jc (vs:=[v,zI 0,zI (S0.length:Int),zI 5,.func (.func 94) ⟨[]⟩ ⟨[]⟩]) [0] (avl ho (by decide)) ?_
 rintro at4 Y13 ⟨aAY,RQ,NQ⟩
 refine zD 1<|zR (.tuple ⟨[]⟩) [] [0] Y13 ⟨_,RQ,NQ⟩
theorem ayO{rows:List bD}(hF:nY ro f K rows)(hV:ee K)(hn4:K.facts.length=4):dG zT 41 [zP f] ro [] (fun r Y=>∃L,aw r 1 111 uX (dt K.facts.length) L∧Y=L):=by
 have hp8:2^K.facts.length=16:=by rw[hn4]
 refine zE<|zD 12<|jp (vs:=[zP f]) [] [] (fun aG hs hZ=>Hg hV (hF.up hs))<|je (.int .u8 ((2^K.facts.length:Nat):Int)) (congrArg (Value.int .u8) (akV hn4))<|zD 3<|nI<|dw [1,1,0,1,0,0] [] (fun(zz:Nat×Value×Cells)=>[(2,zS),(3,zz.2.1),(7,.int .u8 ((2^K.facts.length:Nat):Int)),(8,.int .u8 (zz.1:Int))]) (fun zz=>[.l zz.2.2]) (fun zz=>zz.1≤2^K.facts.length∧aw zz.2.1 1 111 uX (cd zz.1) zz.2.2) (fun zz=>2^K.facts.length-zz.1) (⟨0,zS,[]⟩) ⟨Nat.zero_le _,aw.nil _ _ _⟩ [0] ?_
 rintro⟨k,v,L⟩ hI K1 bG rest
 dsimp only at hI
 have hrl:=gh k
 refine zD 5<|zJ 9 ((k:Int) <((2^K.facts.length:Nat):Int)) (fun h1=>?_) fun h1=>?_
 ·
  refine zD 12<|jn fun vz=>iK (sz:=1) (ps:=(cd k)) (qs:=[(k:Int)]) (enc:=uX) (w:= .slice (some ⟨vz,0,none⟩) 1 1) [1] [0] [(vz,.cells ⟨([(k:Int)].map uX).flatten⟩ 111 (0,0))] (hI.2) (fun s _ hZ=>bV [(k:Int)] (hZ _ (.head _)) (by intro p hp;rfl)) (fun p _=>ai rfl) (by simp<;>omega) (fun v14 L14 oZ=>?_)
  obtain⟨B3,Ax,tt⟩:=oZ.form
  subst tt
  refine zD 3<|je (.int .u8 ((k:Int)+1)) (aqp (n:=k+1) (by omega))<|zD 2<|bF bG (⟨k+1,(.slice B3 (((cd k)++[(k:Int)])).length Ax),L14⟩) ⟨by dsimp only;omega,by dsimp only;rw[q8];exact oZ⟩ (by dsimp only;omega) [0] (Sub.refl _)
 refine zD 5<|jc (vs:=[v,.func (.func 94) ⟨[]⟩ ⟨[]⟩]) [0] (anF (by have:=hI.2;rwa[show k=16 by omega] at this)) ?_
 rintro aM7 Y17 ⟨aLy,awI,qt⟩
 refine zD 7<|zR (v) [] [0] Y17 ⟨_,by rw[dt,hp8,←awI];exact qt,rfl⟩
theorem ajT{rows:List bD}(hF:nY ro f K rows)(hV:ee K)(hn:K.facts.length≤4):dG zT 41 [zP f] ro [] (fun r Y=>∃L,aw r 1 111 uX (dt K.facts.length) L∧Y=L):=by
 by_cases h:K.facts.length=4
 ·exact ayO hF hV h
 exact asm hF hV (by omega)
theorem avg:dt 4=[0,1,2,4,8,3,5,9,6,10,12,7,11,13,14,15]:=by kernel_rfl
theorem Lh{n:Nat}(h:n≤4):(dt n).length≤16∧∀m∈dt n,0≤m∧m <16:=by
 by_cases e:n=4
 ·subst e;rw[avg];decide
 have:=Rc (n:=n) (by omega);exact⟨by omega,this.2⟩
def ek(n:Nat):Nat→Nat→Nat→List (List Int)
 |0,_,_=>[[]]
 |k+1,i,f=>if i+(k+1)≤n then (match f with|0=>[]|f+1=>(ek n k (i+1) f).map (fun l=>(i:Int)::l)++ek n (k+1) (i+1) f) else []
theorem Gj:∀n,n≤4→((List.range (n+1)).map fun k=>ek n k 0 (n+1)).flatten=(dt n).map fun m=>fB m 4
 |0,_=>by kernel_rfl
 |1,_=>by kernel_rfl
 |2,_=>by kernel_rfl
 |3,_=>by kernel_rfl
 |4,_=>by kernel_rfl
 |n+5,h=>absurd h (by omega)
theorem P6{n:Nat}(h:i+(k+1)≤n):ek n (k+1) i (f+1)=(ek n k (i+1) f).map (fun l=>(i:Int)::l)++ek n (k+1) (i+1) f:=by rw[ek,if_pos h]
theorem Kl{n:Nat}(h:¬i+(k+1)≤n):ek n (k+1) i f=[]:=by cases f<;>rw[ek,if_neg h]
theorem nA{n:Nat}:∀ {k i f:Nat} {l:List Int},l∈ek n k i f→l.length=k
 |0,_,_,l,h=>by rw[ek] at h;rw[List.mem_singleton.1 h];rfl
 |k+1,i,0,l,h=>by rw[ek] at h;split at h<;>cases h
 |k+1,i,f+1,l,h=>by
  rw[ek] at h
  split at h
  ·rcases List.mem_append.1 h with h|h
   ·obtain⟨m,hm,rfl⟩:=List.mem_map.1 h
    rw[List.length_cons,nA hm]
   exact nA h
  cases h
theorem agi{l:List α}{x:α}{g:α→β}{W:List β}(h:l[k]?=some x):W++(l.take (k+1)).map g=(W++(l.take k).map g)++[g x]:=by rw[iB h,List.map_append,List.append_assoc];rfl
theorem Gk{n:Nat}(hn:n≤4):∀k i f,k≤4→n+1≤i+f→f≤10→(ek n k i f).length≤16:=by
 have key:((List.range 5).all fun n=>(List.range 5).all fun k=>(List.range 12).all fun i=>(List.range 11).all fun f=>Nat.ble (ek n k i f).length 16)=true:=by kernel_rfl
 intro k i f hk hf EV
 by_cases hi:i <12
 ·exact Nat.le_of_ble_eq_true (List.all_eq_true.1 (List.all_eq_true.1 (List.all_eq_true.1 (List.all_eq_true.1 key n (List.mem_range.2 (by omega))) k (List.mem_range.2 (by omega))) i (List.mem_range.2 hi)) f (List.mem_range.2 (by omega)))
 cases k with
 |zero=>simp[ek]
 |succ k=>rw[Kl (by omega)];exact Nat.zero_le _
def asI(k:Nat):Prop:=∀(ro:Nat→Option Obj) (i n f:Nat) (a b c:Int),a=i→b=n→c=k→(i≤10∧n≤4∧k≤4∧f≤10∧n+1≤i+f)→dG zT 44 [zI a,zI b,zI c] ro [] (fun r Y=>∀aD,Knows aD Y→LL aD r (ek n k i f))
theorem aEb{n:Nat}:dG zT 44 [zI (i:Int),zI (n:Int),zI 0] ro [] (fun r Y=>∀aD,Knows aD Y→LL aD r (ek n 0 i f)):=by
 refine zE<|zD 13<|jn fun vz=>zD 3<|zR (.slice (some ⟨vz,0,none⟩) 1 1) [] [0] [(vz,.cells ⟨[zS]⟩ 22 (0,0))] (fun aD hk=>⟨[zS],bU (enc:=fw) (T:=22) [Value.slice none 0 0] (hk _ (.head _)) (fun _ _=>rfl),by rw[ek];exact .cons ((aw.nil 1 3 cy).jF (fun _ h=>by cases h)) .nil⟩)
theorem aEa{n:Nat}(ih:asI k)(hb:i≤10∧n≤4∧k+1≤4∧f≤10∧n+1≤i+f):dG zT 44 [zI (i:Int),zI (n:Int),zI ((k:Int)+1)] ro [] (fun r Y=>∀aD,Knows aD Y→LL aD r (ek n (k+1) i f)):=by
 have bdd:=Gk (n:=n) (by omega) (k+1) i f (by omega) (by omega) (by omega)
 refine zE<|zD 10<|zJ 12 (((k:Int)+1)=0) (fun h1=>?_) fun h1=>?_
 ·
  exfalso;omega
 refine zD 13<|nI<|nI<|dw [1,1,1,0,1,0,0] [] (fun(zz:Nat×Nat×Value×Cells×(List Value)×Cells×(List (List Int)))=>[(1,zI (n:Int)),(2,zI ((k:Int)+1)),(6,zS),(7,zz.2.2.1),(8,zI (zz.1:Int))]) (fun(zz:Nat×Nat×Value×Cells×(List Value)×Cells×(List (List Int)))=>[.l zz.2.2.2.1,.l zz.2.2.2.2.2.1]) (fun(zz:Nat×Nat×Value×Cells×(List Value)×Cells×(List (List Int)))=>((i≤zz.1∧zz.1≤10∧zz.2.1≤10∧n+1≤zz.1+zz.2.1)∧zz.2.2.2.2.1.length=zz.2.2.2.2.2.2.length∧zz.2.2.2.2.2.2++ek n (k+1) zz.1 zz.2.1=ek n (k+1) i f)∧aw zz.2.2.1 1 22 fw zz.2.2.2.2.1 zz.2.2.2.1∧(∀aD,Knows aD zz.2.2.2.2.2.1→de (fun w l=>bB aD w 1 cy l) zz.2.2.2.2.1 zz.2.2.2.2.2.2)) (fun(zz:Nat×Nat×Value×Cells×(List Value)×Cells×(List (List Int)))=>11-zz.1) (⟨i,f,zS,[],[],[],[]⟩) ⟨⟨by dsimp only;omega,rfl,rfl⟩,aw.nil _ _ _,fun _ _=> .nil⟩ [1,0] ?_
 rintro⟨a,fl,vO,LO,es,Z,W⟩ hI K1 bG rest
 dsimp only at hI
 refine zD 5<|ja ((a:Int)+((k:Int)+1)) (by omega)<|zD 3<|zJ 19 (((a:Int)+((k:Int)+1))≤(n:Int)) (fun h2=>?_) fun h2=>?_
 ·
  refine zD 7<|ja ((a:Int)+1) (by omega)<|zD 2<|ja (((k:Int)+1)-1) (by omega)<|jc (vs:=[zI ((a:Int)+1),zI (n:Int),zI (((k:Int)+1)-1)]) [] (ih _ (a+1) n (fl-1) _ _ _ (by omega) rfl (by omega) (by omega)) ?_
  rintro v27 Y27 C5
  refine zD 5<|jf [0] Y27 (fun ro5 BR hk4=>?_)
  obtain⟨Br,htB,ax7⟩:=C5 _ hk4
  obtain⟨aNq,bbm,bbk,aCC,rfl,bbl,aNp,aNo⟩:=htB
  have aSj:=ax7.len
  obtain⟨f1,rfl⟩:∃f1,fl=f1+1:=⟨fl-1,by omega⟩
  have hcn:=Gk (n:=n) (by omega) k (a+1) f1 (by omega) (by omega) (by omega)
  rw[Nat.add_sub_cancel] at ax7 aSj
  refine zD 2 ?_
  obtain⟨W0,hW0⟩:∃W0,W0=W:=⟨_,rfl⟩
  have h33:=congrArg List.length hI.1.2.2
  rw[P6 (by omega)] at h33
  simp only[List.length_append,List.length_map] at h33
  have h35:=congrArg List.length hW0
  refine dw [1,1,1,0,1,0,0,1,0,0,1,1,0,0] [K1] (fun(zz:Nat×Value×Cells×(List Value)×Cells×(List (List Int)))=>[(1,zI (n:Int)),(2,zI ((k:Int)+1)),(6,zS),(7,zz.2.1),(8,zI (a:Int)),(9,.slice aNq Br.length aCC),(10,zI (zz.1:Int))]) (fun(zz:Nat×Value×Cells×(List Value)×Cells×(List (List Int)))=>[.l zz.2.2.1,.l zz.2.2.2.2.1]) (fun(zz:Nat×Value×Cells×(List Value)×Cells×(List (List Int)))=>(zz.1≤(ek n k (a+1) f1).length∧zz.2.2.2.1.length=zz.2.2.2.2.2.length∧zz.2.2.2.2.2=W0++((ek n k (a+1) f1).take zz.1).map (fun l=>(a:Int)::l))∧aw zz.2.1 1 22 fw zz.2.2.2.1 zz.2.2.1∧(∀aD,Knows aD zz.2.2.2.2.1→de (fun w l=>bB aD w 1 cy l) zz.2.2.2.1 zz.2.2.2.2.2)) (fun(zz:Nat×Value×Cells×(List Value)×Cells×(List (List Int)))=>(ek n k (a+1) f1).length-zz.1) (⟨0,vO,LO,es,Z,W⟩) ⟨⟨Nat.zero_le _,hI.1.2.1,by simp[hW0]⟩,hI.2.1,hI.2.2⟩ [0,1] ?_
  rintro⟨j,vO,LO,es,Z,W⟩ hJ K2 jV rest
  dsimp only at hJ
  have h34:=congrArg List.length hJ.1.2.2
  simp only[List.length_append,List.length_map,List.length_take] at h34
  refine zD 8<|zJ 31 ((j:Int) <(Br.length:Int)) (fun h6=>?_) fun h6=>?_
  ·
   refine zD 7<|jn fun q6=>zD 2 ?_
   obtain⟨BO,oC⟩:=zG Br j
   refine gX aCC 1 aNp oC ?_
   obtain⟨l40,aGa,h40⟩:=ax7.get oC
   obtain bdD:=nA (zL aGa)
   obtain⟨aDi,aN6,aN3,aDh,rfl,bbE,aN5,aN4⟩:=h40
   refine jl 0 (aNo _ _ oC)<|iK (sz:=1) (ps:=[(a:Int)]) (qs:=l40) (enc:=cy) (w:= .slice aDi l40.length aDh) [0] [] [] (AT (b:=q6) (T:=3) [(a:Int)] rfl (by intro p hp;rfl)) (fun s he _=>⟨aDi,aN6,aN3,aDh,rfl,aN5,fun i p hp=>(aN4 i p hp).ext he⟩) (fun p _=>ai rfl) (by simp only[List.length_cons,List.length_nil];omega) (fun v41 L41 Hx=>?_)
   obtain⟨FU,FQ,VM⟩:=Hx.form
   subst VM
   refine jn fun b42=>iK (sz:=1) (ps:=es) (qs:=[((.slice FU (([(a:Int)]++l40)).length FQ):Value)]) (enc:=fw) (w:= .slice (some ⟨b42,0,none⟩) 1 1) [2] [0] [(b42,.cells ⟨([((.slice FU (([(a:Int)]++l40)).length FQ):Value)].map fw).flatten⟩ 22 (0,0))] (hJ.2.1) (fun s _ hZ=>bV [((.slice FU (([(a:Int)]++l40)).length FQ):Value)] (hZ _ (.head _)) (by intro p hp;rfl)) (by intro p hp;rw[List.mem_singleton] at hp;subst hp;exact ai rfl) (by simp only[List.length_cons,List.length_nil];omega) (fun v43 L43 ahJ=>?_)
   obtain⟨ad7,ad0,aip⟩:=ahJ.form
   subst aip
   refine zD 4<|ja ((j:Int)+1) (by omega)<|zD 2<|JG jV (⟨j+1,(.slice ad7 ((es++[((.slice FU (([(a:Int)]++l40)).length FQ):Value)])).length ad0),L43,(es++[((.slice FU (([(a:Int)]++l40)).length FQ):Value)]),Z++L41,W++[(a:Int)::l40]⟩) ⟨⟨by dsimp only;omega,by dsimp only;simp only[zM];omega,by dsimp only;rw[hJ.1.2.2,agi aGa]⟩,ahJ,fun aD hk=>(hJ.2.2 aD hk.left).snoc (Hx.jF hk.right)⟩ (by dsimp only;omega) [[0],[3,2]] (Sub.refl _)
  refine zD 4<|ja ((a:Int)+1) (by omega)<|zD 2<|bF bG (⟨a+1,f1,vO,LO,es,Z,W⟩) ⟨⟨by dsimp only;omega,hJ.1.2.1,by have h3:=hI.1.2.2;rw[P6 (by omega),←List.append_assoc] at h3;rw[←h3,hJ.1.2.2,hW0,List.take_of_length_le (by omega)]⟩,hJ.2.1,hJ.2.2⟩ (by dsimp only;omega) [0,1] BR
 refine zD 8<|zR (vO) [] [0,1] (LO++Z) (fun aD hk=>⟨es,hI.2.1.jF hk.left,by have h3:=hI.1.2.2;rw[Kl (by omega),List.append_nil] at h3;rw[←h3];exact hI.2.2 aD hk.right⟩)
def GU(on:Int):List bM→Nat→List bM
 | [],_=>[]
 |x::l,k=>(bif hasB on k then [x] else [])++GU on l (k+1)
abbrev Ek(K:aC)(fs:List bM):aC:={K with facts:=fs}
theorem afK{on:Int}{a b:Int}:∀ {l:List bM} {k:Nat},xW on a b l k=sU a b (GU on l k)
 | [],_=>rfl
 |x::l,k=>by
  have ih:=afK (on:=on) (a:=a) (b:=b) (l:=l) (k:=k+1)
  simp only[xW,GU,ih]
  cases hasB on k<;>simp[sU]
theorem QS{on:Int}{p:Nat→Int}:∀ {l:List bM} {k:Nat},j7 on p l k=lM p (GU on l k)
 | [],_=>rfl
 |x::l,k=>by
  have ih:=QS (on:=on) (p:=p) (l:=l) (k:=k+1)
  simp only[j7,GU,ih]
  cases hasB on k<;>simp[lM]
theorem afN{on:Int}:∀ {l:List bM} {k:Nat},(GU on l k).length≤l.length
 | [],_=>Nat.le_refl _
 |x::l,k=>by
  have ih:=afN (on:=on) (l:=l) (k:=k+1)
  simp only[GU,List.length_append,List.length_cons]
  cases hasB on k<;>simp<;>omega
theorem auY{on:Int}(a b:Nat):dc K on a b=pO (Ek K (GU on K.facts 0)) a b:=by
 simp only[dc,pO,afK]
 rfl
theorem Yi{on:Int}:∀(n a:Nat) (p:Nat→Int),gB K on n a p=fC (pO (Ek K (GU on K.facts 0))) (fun p=>lM p (GU on K.facts 0)) K.after.length n a p
 |0,a,p=>by simp only[gB,fC,QS]
 |n+1,a,p=>by simp only[gB,fC,auY,Yi n]
theorem afL{on:Int}(h:K.facts.length≤4):aI K on=aI (Ek K (GU on K.facts 0)) (aP (Ek K (GU on K.facts 0))):=by
 rw[aI,aI,Yi,mJ (K:=Ek K (GU on K.facts 0)) (by have:=afN (on:=on) (l:=K.facts) (k:=0);show (GU on K.facts 0).length≤4;omega)]
theorem ON{K:aC}{rows:List bD}{p:Nat→Int}:∀ {n:Nat},n≤rows.length→(E3 K rows p n=true↔∃i r,i <n∧rows[i]?=some r∧cz K.gone K.new K.af (cv K r i p)=true)
 |0,_=>by simp[E3]
 |n+1,h=>by
  have ih:=ON (K:=K) (rows:=rows) (p:=p) (n:=n) (by omega)
  obtain⟨r,hr⟩:∃r,rows[n]?=some r:=⟨_,List.getElem?_eq_getElem (by omega)⟩
  rw[OO hr,Bool.or_eq_true,ih]
  constructor
  ·rintro(⟨i,r,h1,h2⟩|h1)
   ·exact⟨i,r,by omega,h2⟩
   exact⟨n,r,by omega,hr,h1⟩
  rintro⟨i,r',h1,h2,h3⟩
  by_cases e:i=n
  ·subst e;rw[hr] at h2;cases h2;exact .inr h3
  exact .inl ⟨i,r',by omega,h2,h3⟩
theorem IB{on:Int}(h:K.facts.length≤4):zw K (cH K) on=decide (0 <cm (Ek K (GU on K.facts 0))):=by
 rw[Bool.eq_iff_iff,decide_eq_true_eq,zw,List.any_eq_true,afL h]
 constructor
 ·rintro⟨p,hp,ha⟩
  obtain⟨i,r,h1,h2,h3⟩:=(ON (Nat.le_refl _)).1 ha
  refine List.length_pos_of_mem (a:=cv K r i p) (List.mem_flatten.2 ⟨_,List.mem_map.2 ⟨i,List.mem_range.2 h1,rfl⟩,?_⟩)
  have lE:(cH (Ek K (GU on K.facts 0)))[i]?=some r:=h2
  simp only[lE,Option.getD_some,mB]
  exact List.mem_filter.2 ⟨List.mem_map.2 ⟨p,hp,rfl⟩,h3⟩
 intro hn
 obtain⟨x,hx⟩:=List.exists_mem_of_length_pos hn
 obtain⟨i,r,p,hr,hp,rfl,hk⟩:=fN hx
 exact⟨p,hp,(ON (Nat.le_refl _)).2 ⟨i,r,(List.getElem?_eq_some_iff.1 hr).1,hr,hk⟩⟩
def iE(fs:List bM)(s:List Int)(b:Bool):Nat→List bM
 |0=>[]
 |i+1=>iE fs s b i++(match fs[i]? with|some x=>bif (decide (bQ (fun y=>decide (y=(i:Int))) s 0≥0)==b) then [x] else []|none=>[])
theorem YI{x:bM}(hx:fs[i]?=some x) (h:(decide (bQ (fun y=>decide (y=(i:Int))) s 0≥0)==b)=true):iE fs s b (i+1)=iE fs s b i++[x]:=by rw[iE,hx];simp only[h,cond_true]
theorem YJ{x:bM}(hx:fs[i]?=some x) (h:(decide (bQ (fun y=>decide (y=(i:Int))) s 0≥0)==b)=false):iE fs s b (i+1)=iE fs s b i:=by rw[iE,hx];simp only[h,cond_false,List.append_nil]
theorem xA{fs:List bM}{s:List Int}{b:Bool}:∀i,(iE fs s b i).length≤i
 |0=>Nat.le_refl _
 |i+1=>by
  have ih:=xA (fs:=fs) (s:=s) (b:=b) i
  rw[iE,List.length_append]
  split
  ·cases (decide (bQ (fun y=>decide (y=(i:Int))) s 0≥0)==b)<;>simp<;>omega
  simp;omega
theorem Yh{on:Int}(h:∀i:Nat,i <fs.length→hasB on (i:Int)=(decide (bQ (fun y=>decide (y=(i:Int))) s 0≥0)==b)):GU on fs 0=iE fs s b fs.length:=by
 have key:∀k,k≤fs.length→GU on fs 0=iE fs s b k++GU on (fs.drop k) k:=fun k=>by
  induction k with
  |zero=>intro _;rw[List.drop_zero];rfl
  |succ k ih=>
   intro hk
   obtain⟨x,hx⟩:∃x,fs[k]?=some x:=⟨_,List.getElem?_eq_getElem (by omega)⟩
   rw[ih (by omega),eE hx,GU,h k (by omega)]
   cases e:(decide (bQ (fun y=>decide (y=(k:Int))) s 0≥0)==b)
   ·rw[YJ hx e,cond_false,List.nil_append]
   rw[YI hx e,cond_true,List.append_assoc]
 have:=key fs.length (Nat.le_refl _)
 rwa[List.drop_length,show GU on ([]:List bM) fs.length=[] from rfl,List.append_nil] at this
abbrev BK(K:aC)(s:List Int)(b:Bool):aC:=Ek K (iE K.facts s b K.facts.length)
theorem CI{t:bM}:∀ {i},t∈iE fs s b i→t∈fs
 |0,h=>by cases h
 |i+1,h=>by
  rw[iE] at h
  rcases List.mem_append.1 h with h|h
  ·exact CI h
  split at h
  ·rename_i x hx
   cases e:(decide (bQ (fun y=>decide (y=(i:Int))) s 0≥0)==b)<;>rw[e] at h
   ·cases h
   rw[List.mem_singleton.1 h];exact zL hx
  cases h
theorem Rq{fs:List bM}{s:List Int}{b:Bool}{R:bM→bM→Prop}(h:fs.Pairwise R):∀i,(iE fs s b i).Pairwise R∧∀t∈iE fs s b i,∃j,j <i∧fs[j]?=some t
 |0=>⟨.nil,fun _ h=>by cases h⟩
 |i+1=>by
  obtain⟨h1,h2⟩:=Rq h (s:=s) (b:=b) i
  rw[iE]
  split
  ·rename_i x hx
   cases e:(decide (bQ (fun y=>decide (y=(i:Int))) s 0≥0)==b)
   ·simp only[cond_false,List.append_nil];exact⟨h1,fun t ht=>by obtain⟨j,hj,hx⟩:=h2 t ht;exact⟨j,by omega,hx⟩⟩
   simp only[cond_true]
   refine⟨List.pairwise_append.2 ⟨h1,List.pairwise_singleton _ _,fun t ht u hu=>?_⟩,fun t ht=>?_⟩
   ·rw[List.mem_singleton.1 hu]
    obtain⟨j,hj,hy⟩:=h2 t ht
    obtain⟨a1,rfl⟩:=List.getElem?_eq_some_iff.1 hy
    obtain⟨a2,rfl⟩:=List.getElem?_eq_some_iff.1 hx
    exact List.pairwise_iff_getElem.1 h j i a1 a2 hj
   rcases List.mem_append.1 ht with ht|ht
   ·obtain⟨j,hj,hx⟩:=h2 t ht;exact⟨j,by omega,hx⟩
   rw[List.mem_singleton.1 ht];exact⟨i,by omega,hx⟩
  simp only[List.append_nil];exact⟨h1,fun t ht=>by obtain⟨j,hj,hx⟩:=h2 t ht;exact⟨j,by omega,hx⟩⟩
theorem jz.kp(h:jz K):jz (BK K s b):=
 ⟨h.oT,h.ways,h.c8,h.rules,h.before,h.after,h.ug,⟨by have:=xA (fs:=K.facts) (s:=s) (b:=b) K.facts.length;have:=h.facts.1;show (iE K.facts s b K.facts.length).length≤4;omega,fun t ht=>h.facts.2 t (CI ht)⟩,(Rq h.apart K.facts.length).1⟩
theorem ee.kp(h:ee K):ee (BK K s b):=
 ⟨h.rules,h.before,h.after,h.c8,⟨by have:=xA (fs:=K.facts) (s:=s) (b:=b) K.facts.length;have:=h.facts.1;show (iE K.facts s b K.facts.length).length≤4;omega,fun t ht=>h.facts.2 t (CI ht)⟩⟩
theorem Dd{f:α→β}{p:β→Bool}:∀ {l:List α},(l.map f).find? p=(l.find? fun x=>p (f x)).map f
 | []=>rfl
 |x::l=>by rw[List.map_cons,List.find?_cons,List.find?_cons,Dd (l:=l)];cases p (f x)<;>rfl
theorem Od{p q:α→Bool}:∀ {l:List α},(∀x∈l,p x=q x)→l.find? p=l.find? q
 | [],_=>rfl
 |x::l,h=>by rw[List.find?_cons,List.find?_cons,h x List.mem_cons_self,Od fun y hy=>h y (List.mem_cons_of_mem _ hy)]
theorem aqM:∀k,asI k
 |0=>fun ro i n f a b c ha hb hc h=>by subst ha hb hc;exact aEb
 |k+1=>fun ro i n f a b c ha hb hc h=>by subst ha hb hc;exact aEa (aqM k) h
theorem agl{n:Nat}(h:n≤4∧k≤4):dG zT 9 [zI (n:Int),zI (k:Int)] ro [] (fun r Y=>∀aD,Knows aD Y→LL aD r (ek n k 0 (n+1))):=by
 refine zE<|zD 8<|jc (vs:=[zI 0,zI (n:Int),zI (k:Int)]) [] (aqM k _ 0 n (n+1) _ _ _ rfl rfl rfl (by omega)) ?_
 rintro v7 Y7 N1
 refine zD 3<|zR (v7) [] [0] Y7 N1
set_option maxHeartbeats 2000000 in
theorem ag0 (hK:fx ro l K) (hO:jz K):dG zT 47 [.agg ⟨l⟩] ro [] (fun r Y=>∃(v0 v1 v3 v4 v5 v6 v7 vb:Value) (fa:Option Addr) (fc:Nat) (LF Z:Cells),r= .agg ⟨[v0,v1,.slice fa 0 fc,v3,v4,v5,v6,v7,zI K.gone,zI K.new,zI K.af,vb]⟩∧(∀v∈[v0,v1,v3,v4,v5,v6,v7,vb],single v=true)∧aw vb 3 100 mY K.facts LF∧(∀aD,Sub ro aD→Knows aD Z→∀(vf:Value) (fs:List bM),bB aD vf 3 mY fs→fx aD [v0,v1,.slice fa 0 fc,v3,v4,v5,v6,v7,zI K.gone,zI K.new,zI K.af,vf] {K with facts:=fs})∧Y=LF++Z):=by
 obtain⟨vS,vT,vc,vh,vr,vb,va,vf,fa,fc,hv,rfl,hS,hT,pY,nn,hr,hb,ha,hf⟩:=hK
 obtain⟨ig,hs,fg⟩:=id hS
 obtain⟨iO,ht,eX⟩:=id hT
 obtain⟨hc,hh,D5⟩:=id pY
 obtain⟨lv,Qs,Qq,kH,rfl,Qr,Jv,Ju⟩:=hs
 obtain⟨eR,AK,AI,dS,rfl,AJ,sG,sE⟩:=ht
 obtain⟨eo,AO,AN,dX,rfl,DK,yP,yO⟩:=hc
 obtain⟨dJ,u5,u4,dv,rfl,xq,qX,qW⟩:=hh
 obtain⟨kZ,I1,I0,kY,rfl,O4,GD,GC⟩:=hr
 obtain⟨mw,Qv,Qt,mo,rfl,Qu,O6,O5⟩:=hb
 obtain⟨lO,M9,M7,lH,rfl,M8,KH,KG⟩:=ha
 obtain⟨gP,vY,vX,fP,rfl,AM,qQ,qP⟩:=hf
 have C2:=hO.rules
 have qT:=hO.before.1
 have Ph:=hO.after.1
 have Pg:=hO.facts.1
 have Pf:=hO.ways.1
 have I9:=fg.len
 have EP:=eX.len
 have Zj:=hO.oT.two
 have hl9:=hO.c8.nh
 have O3:∀(i:Nat) (p:da),([]:List da)[i]?=some p→cD ⟨ro,[]⟩ 0 (0+i*6) 6 (mN p):=fun _ _ h=>oB h
 refine zE<|zD 2<|jn fun b1=>jn fun b2=>zD 3<|jn fun b6=>jd 3 [2]<|iK (sz:=6) (ps:=[]) (qs:=([]:List da)) (enc:=mN) (w:= .slice fa 0 fc) [0] [] [] (bC (b:=b6) (T:=151)) (fun s he _=>⟨fa,0,0,fc,rfl,(fun _ h=>absurd h (Nat.not_lt_zero _)),fun i p hp=>(O3 i p hp).ext he⟩) (fun p _=>ai rfl) (by simp<;>omega) (fun v10 L10 HD=>?_)
 rw[List.nil_append] at HD
 obtain⟨yE,yC,axI⟩:=HD.form
 subst axI
 refine zD 1<|jn fun b3=>jd 8 [0]<|nI<|nI<|dw [1,1,0,1,0,0] [] (fun(zz:Nat×Value×Cells×(List Value)×Cells)=>[(1,zP b1),(2,zP b2),(3,zP b3),(4,zI (zz.1:Int))]) (fun zz=>[.b b3 (.cells ⟨[zz.2.1,zS,(.slice yE (([]:List da)).length yC)]⟩ 29 (0,0)),.l zz.2.2.1,.l zz.2.2.2.2,.l L10,.b b2 (.cells ⟨zO⟩ 38 (0,0)),.b b1 (.cells ⟨[.slice lv ig.length kH,.slice eR iO.length dS,.slice fa 0 fc,.slice eo K.cs.length dX,.slice dJ hv.length dv,.slice kZ K.rules.length kY,.slice mw K.before.length mo,.slice lO K.after.length lH,zI K.gone,zI K.new,zI K.af,.slice gP K.facts.length fP]⟩ 38 (0,0))]) (fun zz=>(zz.1≤ig.length∧zz.2.2.2.1.length=zz.1)∧aw zz.2.1 1 82 fw zz.2.2.2.1 zz.2.2.1∧∀aD,Knows aD zz.2.2.2.2→de (fun w l=>bB aD w 2 cK l) zz.2.2.2.1 (K.str.take zz.1)) (fun zz=>ig.length-zz.1) (⟨0,zS,[],[],[]⟩) ⟨⟨by omega,rfl⟩,aw.nil _ _ _,fun _ _=> .nil⟩ [2,1,0,3,4,5] ?_
 rintro⟨i,v0,L0,ps,Z⟩ hI K1 bG rest
 dsimp only at hI
 refine jd 11 [5]<|zJ 18 ((i:Int) <(ig.length:Int)) (fun h1=>?_) fun h1=>?_
 ·
  refine jd 13 [0,5] ?_
  obtain⟨kB,fS⟩:=zG ig i
  refine gX kH 1 Jv fS ?_
  obtain⟨Rn,ah8,h31⟩:=fg.get fS
  obtain aRH:=hO.oT.len _ (zL ah8)
  obtain⟨afh,auK,auH,afg,rfl,aOa,auJ,auI⟩:=h31
  refine jl 0 (Ju _ _ fS)<|aS 3 fun As AA zi=>jn fun FC=>eG zi (zN 1 6)<|aS 11 fun oP oR nK=>iK (sz:=2) (ps:=[]) (qs:=Rn) (enc:=cK) (w:= .slice afh Rn.length afg) [0] [] [] (bC (b:=FC) (T:=81)) (fun s he _=>⟨afh,auK,auH,afg,rfl,auJ,fun i p hp=>(auI i p hp).ext he⟩) (fun p _=>ai rfl) (by simp<;>omega) (fun v32 L32 y8=>?_)
  rw[List.nil_append] at y8
  obtain⟨yD,yB,VP⟩:=y8.form
  subst VP
  refine gx nK [[6],[1]]<|aS 12 fun qU qV pK=>jn fun b33=>eG pK (zN 1 7)<|aS 13 fun yz yF zh=>iK (sz:=1) (ps:=ps) (qs:=[((.slice yD (Rn).length yB):Value)]) (enc:=fw) (w:= .slice (some ⟨b33,0,none⟩) 1 1) [3] [0] [(b33,.cells ⟨([((.slice yD (Rn).length yB):Value)].map fw).flatten⟩ 82 (0,0))] (hI.2.1) (fun s _ hZ=>bV [((.slice yD (Rn).length yB):Value)] (hZ _ (.head _)) (by intro p hp;rfl)) (by intro p hp;rw[List.mem_singleton] at hp;subst hp;exact ai rfl) (by simp<;>omega) (fun v34 L34 Hz=>?_)
  obtain⟨T9,T5,VN⟩:=Hz.form
  subst VN
  refine gx zh [[7]]<|zD 2<|aS 16 fun aap aaD V5=>jd 1 [3]<|gx V5 []<|zD 3<|ja ((i:Int)+1) (by omega)<|zD 2<|JG bG (⟨i+1,(.slice T9 ((ps++[((.slice yD (Rn).length yB):Value)])).length T5),L34,(ps++[((.slice yD (Rn).length yB):Value)]),L32++Z⟩) ⟨⟨by dsimp only;omega,by simp only[zM];omega⟩,Hz,fun aD hk=>p5 (hI.2.2 aD hk.right) ah8 (y8.jF hk.left)⟩ (by omega) [[3],[0],[2,4],[5],[6],[7]] (Sub.refl _)
 refine zD 8<|nI<|nI<|dw [1,1,1,0,1,0,0] [] (fun(zz:Nat×Value×Cells×(List Value)×Cells)=>[(1,zP b1),(2,zP b2),(3,zP b3),(5,zI (zz.1:Int))]) (fun zz=>[.b b3 (.cells ⟨[v0,zz.2.1,(.slice yE (([]:List da)).length yC)]⟩ 29 (0,0)),.l zz.2.2.1,.l zz.2.2.2.2,.l L0,.l Z,.l L10,.b b2 (.cells ⟨zO⟩ 38 (0,0)),.b b1 (.cells ⟨[.slice lv ig.length kH,.slice eR iO.length dS,.slice fa 0 fc,.slice eo K.cs.length dX,.slice dJ hv.length dv,.slice kZ K.rules.length kY,.slice mw K.before.length mo,.slice lO K.after.length lH,zI K.gone,zI K.new,zI K.af,.slice gP K.facts.length fP]⟩ 38 (0,0))]) (fun zz=>(zz.1≤iO.length∧zz.2.2.2.1.length=zz.1)∧aw zz.2.1 1 89 fw zz.2.2.2.1 zz.2.2.1∧∀aD,Knows aD zz.2.2.2.2→de (fun w l=>bB aD w 7 kS l) zz.2.2.2.1 (K.ways.take zz.1)) (fun zz=>iO.length-zz.1) (⟨0,zS,[],[],[]⟩) ⟨⟨by omega,rfl⟩,aw.nil _ _ _,fun _ _=> .nil⟩ [2,1,0,3,4,5,6,7] ?_
 rintro⟨j,v1,L1,qs,Z1⟩ hG K7 hK7 rest
 dsimp only at hG
 refine jd 10 [7]<|zJ 42 ((j:Int) <(iO.length:Int)) (fun h7=>?_) fun h7=>?_
 ·
  refine jd 11 [0,7] ?_
  obtain⟨x52,th⟩:=zG iO j
  refine gX dS 1 sG th<|zD 1 ?_
  obtain⟨U8,ah7,h54⟩:=eX.get th
  obtain aRD:=(hO.ways.2 _ (zL ah7)).1.2
  obtain⟨aff,auG,auD,afe,rfl,aNQ,auF,auE⟩:=h54
  refine jl 0 (sE _ _ th)<|aS 2 fun aao aaC hL8=>jn fun b47=>eG hL8 (zN 1 8)<|aS 10 fun TX Ub Sn=>iK (sz:=7) (ps:=[]) (qs:=U8) (enc:=kS) (w:= .slice aff U8.length afe) [0] [] [] (bC (b:=b47) (T:=85)) (fun s he _=>⟨aff,auG,auD,afe,rfl,auF,fun i p hp=>(auE i p hp).ext he⟩) (fun p _=>ai rfl) (by simp<;>omega) (fun v55 L55 y7=>?_)
  rw[List.nil_append] at y7
  obtain⟨FT,FP,axz⟩:=y7.form
  subst axz
  refine gx Sn [[8],[1]]<|zD 1<|aS 12 fun FI Ge wC=>jn fun b57=>eG wC (zN 1 9)<|aS 13 fun FH Gd zk=>iK (sz:=1) (ps:=qs) (qs:=[((.slice FT (U8).length FP):Value)]) (enc:=fw) (w:= .slice (some ⟨b57,0,none⟩) 1 1) [3] [0] [(b57,.cells ⟨([((.slice FT (U8).length FP):Value)].map fw).flatten⟩ 89 (0,0))] (hG.2.1) (fun s _ hZ=>bV [((.slice FT (U8).length FP):Value)] (hZ _ (.head _)) (by intro p hp;rfl)) (by intro p hp;rw[List.mem_singleton] at hp;subst hp;exact ai rfl) (by simp<;>omega) (fun v58 L58 Hu=>?_)
  obtain⟨T8,T4,HK⟩:=Hu.form
  subst HK
  refine gx zk [[9]]<|zD 1<|aS 15 fun Pv PX C7=>jd 1 [3]<|fW C7<|zD 3<|ja ((j:Int)+1) (by omega)<|zD 2<|JG hK7 (⟨j+1,(.slice T8 ((qs++[((.slice FT (U8).length FP):Value)])).length T4),L58,(qs++[((.slice FT (U8).length FP):Value)]),L55++Z1⟩) ⟨⟨by dsimp only;omega,by simp only[zM];omega⟩,Hu,fun aD hk=>p5 (hG.2.2 aD hk.right) ah7 (y7.jF hk.left)⟩ (by omega) [[3],[0],[2,4],[5],[6],[7],[8],[9]] (Sub.refl _)
 refine zD 3<|EG [1,1,1,1,1] [] (fun(zz:(Option Addr)×Nat×(Option Addr)×Nat×(List bx)×Cells×Value×Cells)=>[(1,zP b1),(2,zP b2)]) (fun zz=>[.b b1 (.cells ⟨[v0,v1,(.slice yE (([]:List da)).length yC),(.slice zz.1 K.cs.length zz.2.1),(.slice zz.2.2.1 zz.2.2.2.2.1.length zz.2.2.2.1),zz.2.2.2.2.2.2.1,.slice mw K.before.length mo,.slice lO K.after.length lH,zI K.gone,zI K.new,zI K.af,.slice gP K.facts.length fP]⟩ 38 (0,0)),.l zz.2.2.2.2.2.2.2,.l zz.2.2.2.2.2.1,.b b3 (.cells ⟨[v0,v1,(.slice yE (([]:List da)).length yC)]⟩ 29 (0,0)),.l L1,.l Z1,.l L0,.l Z,.l L10,.b b2 (.cells ⟨zO⟩ 38 (0,0))]) (fun zz=>de dq zz.2.2.2.2.1 K.hd∧(∀aD,Sub ro aD→Knows aD zz.2.2.2.2.2.1→jh aD (.slice zz.1 K.cs.length zz.2.1) (.slice zz.2.2.1 zz.2.2.2.2.1.length zz.2.2.2.1) K.cs zz.2.2.2.2.1 K.hd)∧aw zz.2.2.2.2.2.2.1 2 92 iG K.rules zz.2.2.2.2.2.2.2) ?_ (fun K13 N5=>?_)
 ·
  rintro⟨ta,tc,ua,uc,hw,ZT,vR,LR⟩ hJ rest
  dsimp only at hJ
  refine zD 1<|EG [1,1,1,1,1,1] [] (fun(zz:Value×Cells×Value×Cells×Value×Cells)=>[(1,zP b1),(2,zP b2)]) (fun zz=>[.b b1 (.cells ⟨[v0,v1,(.slice yE (([]:List da)).length yC),(.slice ta K.cs.length tc),(.slice ua hw.length uc),vR,zz.1,zz.2.2.1,zI K.gone,zI K.new,zI K.af,zz.2.2.2.2.1]⟩ 38 (0,0)),.l zz.2.1,.l zz.2.2.2.1,.l zz.2.2.2.2.2,.l LR,.l ZT,.b b3 (.cells ⟨[v0,v1,(.slice yE (([]:List da)).length yC)]⟩ 29 (0,0)),.l L1,.l Z1,.l L0,.l Z,.l L10,.b b2 (.cells ⟨zO⟩ 38 (0,0))]) (fun zz=>aw zz.1 5 76 eC K.before zz.2.1∧aw zz.2.2.1 5 76 eC K.after zz.2.2.2.1∧aw zz.2.2.2.2.1 3 100 mY K.facts zz.2.2.2.2.2) ?_ (fun K14 JX=>?_)
  ·
   rintro⟨vB,LB,vA,LA,vF,LF⟩ hM rest
   dsimp only at hM
   refine jd 3 [0] ?_
   obtain⟨att,ati,axH⟩:=hI.2.1.form
   subst axH
   obtain⟨B3,Ax,tt⟩:=hG.2.1.form
   subst tt
   obtain⟨atr,ath,NX⟩:=hJ.2.2.form
   subst NX
   obtain⟨atq,atg,ais⟩:=hM.1.form
   subst ais
   obtain⟨xU,xT,JV⟩:=hM.2.1.form
   subst JV
   obtain⟨aea,aaw,NW⟩:=hM.2.2.form
   subst NW
   refine jd 3 [12]<|zR (.agg ⟨[(.slice att (ps).length ati),(.slice B3 (qs).length Ax),(.slice yE (([]:List da)).length yC),(.slice ta K.cs.length tc),(.slice ua hw.length uc),(.slice atr (K.rules).length ath),(.slice atq (K.before).length atg),(.slice xU (K.after).length xT),zI K.gone,zI K.new,zI K.af,(.slice aea (K.facts).length aaw)]⟩) [12] [3,1,2,4,5,7,8,9,10,11] (LF++(LB++(LA++(LR++(ZT++(L1++(Z1++(L0++(Z++L10))))))))) ⟨_,_,_,_,_,_,_,_,_,_,_,_,rfl,vM (ep hI.2.1) (ep hG.2.1) rfl rfl (ep hJ.2.2) (ep hM.1) (ep hM.2.1) (ep hM.2.2),hM.2.2,fun aD oO hk vf fs hvf=>⟨_,_,_,_,_,_,_,_,_,_,hw,rfl,⟨_,hI.2.1.jF hk.right.right.right.right.right.right.left,by have:=hI.2.2 aD hk.right.right.right.right.right.right.right.left;rwa[List.take_of_length_le (by omega)] at this⟩,⟨_,hG.2.1.jF hk.right.right.right.right.left,by have:=hG.2.2 aD hk.right.right.right.right.right.left;rwa[List.take_of_length_le (by omega)] at this⟩,hJ.2.1 aD oO hk.right.right.right.left,hJ.1,hJ.2.2.jF hk.right.right.left,hM.1.jF hk.left,hM.2.1.jF hk.right.left,hvf⟩,rfl⟩
  refine jd 7 [0,0,0]<|I5 [2,6] ⟨fun z15 t16 C6=>?_,fun z18 t19 Wb=>?_,trivial⟩
  ·
   refine jc (vs:=[.slice mw K.before.length mo]) [] (gV (show bB _ _ _ _ _ from ⟨mw,Qv,Qt,mo,rfl,Qu,O6,O5⟩) (by omega)) ?_
   rintro v73 L73 ⟨_,za,rfl⟩
   refine eG C6 (zN 1 10)<|zD 1<|I5 [5,6] ⟨fun z21 t22 Wa=>?_,fun z24 t25 ET=>?_,trivial⟩
   ·
    refine jc (vs:=[.slice lO K.after.length lH]) [] (gV (show bB _ _ _ _ _ from ⟨lO,M9,M7,lH,rfl,M8,KH,KG⟩) (by omega)) ?_
    rintro v76 L76 ⟨_,wB,rfl⟩
    refine eG Wa (zN 1 11)<|aS 6 fun Pu PW C5=>jn fun b77=>eG C5 (zN 1 12)<|aS 9 fun Pt PV HU=>iK (sz:=3) (ps:=[]) (qs:=K.facts) (enc:=mY) (w:= .slice gP K.facts.length fP) [0] [] [] (bC (b:=b77) (T:=100)) (fun s he _=>⟨gP,vY,vX,fP,rfl,qQ,fun i p hp=>(qP i p hp).ext he⟩) (fun p _=>ai rfl) (by simp<;>omega) (fun v80 L80 gi=>?_)
    rw[List.nil_append] at gi
    obtain⟨FR,FO,HJ⟩:=gi.form
    subst HJ
    refine gx HU []<|aS 11 (fun Ps PU HT=>?_)
    obtain⟨ad9,ad2,VQ⟩:=za.form
    subst VQ
    refine jd 1 [3]<|fW HT<|zD 1<|aS 13 (fun adC aen V8=>?_)
    obtain⟨ato,ate,axE⟩:=wB.form
    subst axE
    refine jd 1 [3]<|fW V8<|zD 1<|aS 15 fun adB aem So=>jd 1 [3]<|fW So<|zD 1<|bF JX ⟨(.slice ad9 (K.before).length ad2),L73,(.slice ato (K.after).length ate),L76,(.slice FR (K.facts).length FO),L80⟩ ⟨za,wB,gi⟩ Nat.zero_lt_one [3,2,1,0,4,5,6,7,8,9,10,11,12] (Sub.refl _)
   refine jn fun b77=>eG ET (zN 1 11)<|aS 5 fun aqg aqB V7=>jc (vs:=[.slice lO K.after.length lH]) [] (gV (show bB _ _ _ _ _ from ⟨lO,M9,M7,lH,rfl,M8,KH,KG⟩) (by omega)) ?_
   rintro v76 L76 ⟨_,wB,rfl⟩
   refine eG V7 (zN 1 12)<|aS 9 fun aAP aBO ayk=>iK (sz:=3) (ps:=[]) (qs:=K.facts) (enc:=mY) (w:= .slice gP K.facts.length fP) [1] [] [] (bC (b:=b77) (T:=100)) (fun s he _=>⟨gP,vY,vX,fP,rfl,qQ,fun i p hp=>(qP i p hp).ext he⟩) (fun p _=>ai rfl) (by simp<;>omega) (fun v80 L80 gi=>?_)
   rw[List.nil_append] at gi
   obtain⟨FR,FO,HJ⟩:=gi.form
   subst HJ
   refine gx ayk []<|aS 11 (fun aAO aBN aiX=>?_)
   obtain⟨yD,yB,VP⟩:=za.form
   subst VP
   refine jd 1 [3]<|fW aiX<|zD 1<|aS 13 (fun aAN aBM aiW=>?_)
   obtain⟨T9,T5,VN⟩:=wB.form
   subst VN
   refine jd 1 [3]<|fW aiW<|zD 1<|aS 15 fun adA ael N2=>jd 1 [3]<|fW N2<|zD 1<|bF JX ⟨(.slice yD (K.before).length yB),L73,(.slice T9 (K.after).length T5),L76,(.slice FR (K.facts).length FO),L80⟩ ⟨za,wB,gi⟩ Nat.zero_lt_one [3,2,1,0,4,5,6,7,8,9,10,11,12] (Sub.refl _)
  refine jn fun b77=>eG Wb (zN 1 10)<|aS 2 fun adz aek V6=>jc (vs:=[.slice mw K.before.length mo]) [] (gV (show bB _ _ _ _ _ from ⟨mw,Qv,Qt,mo,rfl,Qu,O6,O5⟩) (by omega)) ?_
  rintro v73 L73 ⟨_,za,rfl⟩
  refine eG V6 (zN 1 11)<|zD 1<|aS 5 fun aqf aqA aiU=>jc (vs:=[.slice lO K.after.length lH]) [] (gV (show bB _ _ _ _ _ from ⟨lO,M9,M7,lH,rfl,M8,KH,KG⟩) (by omega)) ?_
  rintro v76 L76 ⟨_,wB,rfl⟩
  refine eG aiU (zN 1 12)<|aS 9 fun aqe aqz aiT=>iK (sz:=3) (ps:=[]) (qs:=K.facts) (enc:=mY) (w:= .slice gP K.facts.length fP) [2] [] [] (bC (b:=b77) (T:=100)) (fun s he _=>⟨gP,vY,vX,fP,rfl,qQ,fun i p hp=>(qP i p hp).ext he⟩) (fun p _=>ai rfl) (by simp<;>omega) (fun v80 L80 gi=>?_)
  rw[List.nil_append] at gi
  obtain⟨FR,FO,HJ⟩:=gi.form
  subst HJ
  refine gx aiT []<|aS 11 (fun aAM aBL ayj=>?_)
  obtain⟨FU,FQ,VM⟩:=za.form
  subst VM
  refine jd 1 [3]<|fW ayj<|zD 1<|aS 13 (fun aAL aBK aiS=>?_)
  obtain⟨ad7,ad0,aip⟩:=wB.form
  subst aip
  refine jd 1 [3]<|fW aiS<|zD 1<|aS 15 fun aAK aBJ ayi=>jd 1 [3]<|fW ayi<|zD 1<|bF JX ⟨(.slice FU (K.before).length FQ),L73,(.slice ad7 (K.after).length ad0),L76,(.slice FR (K.facts).length FO),L80⟩ ⟨za,wB,gi⟩ Nat.zero_lt_one [3,2,1,0,4,5,6,7,8,9,10,11,12] (Sub.refl _)
 refine jd 7 [0,7,7]<|I5 [3,4] ⟨fun z43 t44 ao1=>?_,fun z46 t47 ayh=>?_,trivial⟩
 ·
  refine jc [] (ui hO.c8 pY nn) ?_
  rintro _ Xa ⟨Vq,aza,ax9,ay7,axT,_,rfl,Hn,Hm,rfl⟩
  refine eG ao1 (zN 1 8)<|aS 4 fun aAJ aBI ayg=>jn fun b64=>eG ayg (zN 1 9)<|aS 7 fun aAI aBH aiR=>iK (sz:=2) (ps:=[]) (qs:=K.rules) (enc:=iG) (w:= .slice kZ K.rules.length kY) [0] [] [] (bC (b:=b64) (T:=92)) (fun s he _=>⟨kZ,I1,I0,kY,rfl,GD,fun i p hp=>(GC i p hp).ext he⟩) (fun p _=>ai rfl) (by simp<;>omega) (fun v67 L67 lR=>?_)
  rw[List.nil_append] at lR
  obtain⟨T7,T3,VJ⟩:=lR.form
  subst VJ
  refine gx aiR [[2]]<|aS 9 (fun aqd aqy aiQ=>?_)
  obtain⟨ad6,adZ,VL⟩:=hI.2.1.form
  subst VL
  obtain⟨aMo,aL4,axA⟩:=hG.2.1.form
  subst axA
  refine jd 1 [9]<|fW aiQ<|zD 1<|aS 11 fun aqc aqx aiP=>jd 1 [9]<|fW aiP<|zD 1<|aS 13 fun aqb aqw aiO=>jd 1 [9]<|fW aiO<|zD 1<|bF N5 ⟨_,_,_,_,Vq,Xa,(.slice T7 (K.rules).length T3),L67⟩ ⟨Hn,Hm,lR⟩ Nat.zero_lt_one [9,0,1,2,3,4,5,6,7,8] (Sub.refl _)
 refine jn fun b64=>eG ayh (zN 1 8)<|aS 3 fun aqa aqv aiN=>jc [] (ui hO.c8 pY nn) ?_
 rintro _ Xa ⟨Vq,aza,ax9,ay7,axT,_,rfl,Hn,Hm,rfl⟩
 refine eG aiN (zN 1 9)<|aS 7 fun ap9 aqu aiM=>iK (sz:=2) (ps:=[]) (qs:=K.rules) (enc:=iG) (w:= .slice kZ K.rules.length kY) [1] [] [] (bC (b:=b64) (T:=92)) (fun s he _=>⟨kZ,I1,I0,kY,rfl,GD,fun i p hp=>(GC i p hp).ext he⟩) (fun p _=>ai rfl) (by simp<;>omega) (fun v67 L67 lR=>?_)
 rw[List.nil_append] at lR
 obtain⟨T7,T3,VJ⟩:=lR.form
 subst VJ
 refine gx aiM [[2]]<|aS 9 (fun ap8 aqt aiL=>?_)
 obtain⟨amn,aml,aio⟩:=hI.2.1.form
 subst aio
 obtain⟨T8,T4,HK⟩:=hG.2.1.form
 subst HK
 refine jd 1 [9]<|fW aiL<|zD 1<|aS 11 fun ap7 aqs aiK=>jd 1 [9]<|fW aiK<|zD 1<|aS 13 fun aAH aBG ayf=>jd 1 [9]<|fW ayf<|zD 1<|bF N5 ⟨_,_,_,_,Vq,Xa,(.slice T7 (K.rules).length T3),L67⟩ ⟨Hn,Hm,lR⟩ Nat.zero_lt_one [9,0,1,2,3,4,5,6,7,8] (Sub.refl _)
theorem arn{w:Value}(hK:fx ro l K)(hC:jz K)(hs:bB ro w 1 cy s)(hn:s.length≤100):dG zT 11 [.agg ⟨l⟩,w,.bool b] ro [] (fun r Y=>∃(v0 v1 v3 v4 v5 v6 v7 vb:Value) (fa:Option Addr) (fc:Nat) (LF Z:Cells),r= .agg ⟨[v0,v1,.slice fa 0 fc,v3,v4,v5,v6,v7,zI K.gone,zI K.new,zI K.af,vb]⟩∧aw vb 3 100 mY (iE K.facts s b K.facts.length) LF∧(∀aD,Sub ro aD→Knows aD Z→∀(vf:Value) (fs:List bM),bB aD vf 3 mY fs→fx aD [v0,v1,.slice fa 0 fc,v3,v4,v5,v6,v7,zI K.gone,zI K.new,zI K.af,vf] {K with facts:=fs})∧Y=LF++Z):=by
 have hLa:=hK.L.all
 obtain⟨v0,v1,v3,v4,v5,v6,v7,vb,fa,fc,hv,rfl,_,_,_,_,_,_,_,hf⟩:=id hK
 obtain⟨gP,vY,vX,fP,rfl,AM,qQ,qP⟩:=hf
 obtain⟨lv,Qs,Qq,kH,rfl,Qr,Jv,Ju⟩:=hs
 have vv:=hC.facts.1
 refine zE<|zD 2<|jn fun b3=>jn fun b6=>jd 4 [1]<|jc (vs:=[.agg ⟨[v0,v1,.slice fa 0 fc,v3,v4,v5,v6,v7,zI K.gone,zI K.new,zI K.af,.slice gP K.facts.length fP]⟩]) [] (ag0 hK hC) ?_
 rintro _ _ ⟨Ga,F8,F7,F6,F5,F4,F3,aBD,FZ,FY,aVY,Z10,rfl,Hr,NR,aRX,rfl⟩
 have aE9:=Tu.all (K:=K) ⟨Ga,F8,F7,F6,F5,F4,F3,aBD,FZ,FY,rfl,Hr⟩
 refine jg 0 [.l aVY,.l Z10]<|jn (fun b7=>?_)
 obtain⟨va1,vc1,su⟩:=NR.form
 subst su
 refine jsx 0 b7 0 zO [Ga,F8,.slice FZ 0 FY,F7,F6,F5,F4,F3,zI K.gone,zI K.new,zI K.af,(.slice va1 (K.facts).length vc1)] 38 aE9 rfl<|jd 12 [0]<|nI<|dw [1,1,1,0,1,0,0] [] (fun(zz:Nat×Value×Cells)=>[(1,.slice lv s.length kH),(2,.bool b),(3,zP b3),(6,zP b6),(7,zP b7),(8,zI (zz.1:Int))]) (fun zz=>[.l zz.2.2,.b b7 (.cells ⟨[Ga,F8,.slice FZ 0 FY,F7,F6,F5,F4,F3,zI K.gone,zI K.new,zI K.af,zz.2.1]⟩ 38 (0,0)),.l Z10,.b b6 (.cells ⟨zO⟩ 38 (0,0)),.b b3 (.cells ⟨[v0,v1,.slice fa 0 fc,v3,v4,v5,v6,v7,zI K.gone,zI K.new,zI K.af,.slice gP K.facts.length fP]⟩ 38 (0,0))]) (fun zz=>zz.1≤K.facts.length∧aw zz.2.1 3 100 mY (iE K.facts s b zz.1) zz.2.2) (fun zz=>K.facts.length-zz.1) (⟨0,zS,[]⟩) ⟨Nat.zero_le _,aw.nil _ _ _⟩ [0,1,3,4,5] ?_
 rintro⟨i,vF,LF⟩ hF K1 bG rest
 dsimp only at hF
 have R7:=xA (fs:=K.facts) (s:=s) (b:=b) i
 refine jd 9 [4]<|zJ 16 ((i:Int) <(K.facts.length:Int)) (fun h2=>?_) fun h2=>?_
 ·
  refine zD 8<|jp (vs:=[.slice lv s.length kH,zI (i:Int)]) [] [] (fun aG hs hZ=>agY ((show bB _ _ _ _ _ from ⟨lv,Qs,Qq,kH,rfl,Qr,Jv,Ju⟩).up hs) (by first|omega| (simp only[List.length_set,zM];omega))) ?_
  refine zD 4<|js 24 ((decide ((bQ (fun y=>decide (y=(i:Int))) s 0)≥0))==b) (fun h3=>?_) (fun h3=>?_)
  ·
   refine jd 7 [1,4] ?_
   obtain⟨kB,fS⟩:=zG K.facts i
   refine gX fP 3 qQ fS<|jl 0 (qP _ _ fS)<|aS 7 fun As AA zi=>jn fun b32=>eG zi (zN 1 5)<|aS 8 fun oP oR nK=>iK (sz:=3) (ps:=(iE K.facts s b i)) (qs:=[(⟨kB.a,kB.b,kB.same⟩:bM)]) (enc:=mY) (w:= .slice (some ⟨b32,0,none⟩) 1 1) [1] [0] [(b32,.cells ⟨([(⟨kB.a,kB.b,kB.same⟩:bM)].map mY).flatten⟩ 100 (0,0))] (hF.2) (fun s _ hZ=>bV [(⟨kB.a,kB.b,kB.same⟩:bM)] (hZ _ (.head _)) (by intro p hp;rfl)) (fun p _=>ai rfl) (by simp only[List.length_cons,List.length_nil];omega) (fun v33 L33 HA=>?_)
   obtain⟨atn,atd,axD⟩:=HA.form
   subst axD
   refine gx nK [[5]]<|zD 1<|aS 10 fun qU qV pK=>jd 1 [2]<|fW pK<|zD 3<|ja ((i:Int)+1) (by omega)<|zD 2<|bF bG (⟨i+1,(.slice atn (((iE K.facts s b i)++[(⟨kB.a,kB.b,kB.same⟩:bM)])).length atd),L33⟩) ⟨by dsimp only;omega,by dsimp only;rw[YI (s:=s) (b:=b) fS (by assumption)];exact HA⟩ (by dsimp only;omega) [0,2,3,4,5] (Sub.refl _)
  obtain⟨x0,EK⟩:∃x,K.facts[i]?=some x:=⟨_,List.getElem?_eq_getElem (by omega)⟩
  refine zD 4<|ja ((i:Int)+1) (by omega)<|zD 2<|bF bG (⟨i+1,vF,LF⟩) ⟨by dsimp only;omega,by dsimp only;rw[YJ (s:=s) (b:=b) EK (by assumption)];exact hF.2⟩ (by dsimp only;omega) (zN 0 5) (Sub.refl _)
 refine zD 3 ?_
 have aQL:=Tu.all (K:=K) ⟨Ga,F8,F7,F6,F5,F4,F3,vF,FZ,FY,rfl,vM (Hr _ (by simp)) (Hr _ (by simp)) (Hr _ (by simp)) (Hr _ (by simp)) (Hr _ (by simp)) (Hr _ (by simp)) (Hr _ (by simp)) (ep hF.2)⟩
 refine jd 2 [1] ?_
 obtain⟨O2,O1,NU⟩:=hF.2.form
 subst NU
 refine jsx 3 b6 0 zO [Ga,F8,.slice FZ 0 FY,F7,F6,F5,F4,F3,zI K.gone,zI K.new,zI K.af,(.slice O2 ((iE K.facts s b i)).length O1)] 38 aQL rfl<|zD 2<|zR (.agg ⟨[Ga,F8,.slice FZ 0 FY,F7,F6,F5,F4,F3,zI K.gone,zI K.new,zI K.af,(.slice O2 ((iE K.facts s b i)).length O1)]⟩) [0] [1,3] (LF++Z10) ⟨Ga,F8,F7,F6,F5,F4,F3,_,FZ,FY,_,Z10,rfl,(by have hil:i=K.facts.length:=(by omega);subst hil;exact hF.2),aRX,rfl⟩
def Gv(N n:Nat):List (List Int):=(((List.range (N+1)).drop n).map fun k=>ek N k 0 (N+1)).flatten
theorem Uz{N n:Nat}(h:n≤N):Gv N n=ek N n 0 (N+1)++Gv N (n+1):=by
 rw[Gv,eE (x:=n) (by rw[List.getElem?_range (by omega)])];rfl
theorem aaW{N n:Nat}(h:¬n≤N):Gv N n=[]:=by
 rw[Gv,List.drop_eq_nil_of_le (by rw[List.length_range];omega)];rfl
theorem ZH{l m:List (List Int)}{p:List Int→Bool}{j:Nat}{x:List Int}(h:l[j]?=some x):(l.drop j++m).find? p=bif p x then some x else (l.drop (j+1)++m).find? p:=by
 rw[eE h,List.cons_append,List.find?_cons];cases p x<;>rfl
theorem Ae.frz{f:FuncId}{args:List Value}{L:Cells}{Φ:Value→Cells→Prop}(h:∀aG,Sub ro aG→Knows aG L→Ae P f args aG [] Φ):Ae P f args ro L Φ:=fun fr=>Wq asD fun hw=>by
 obtain⟨aD,h1,h2,h3⟩:=Ob (s:=⟨ro,fr⟩) (X:=L) (rw:=L++fr) (.refl _) hw
 intro main T hT c cs g1 g2
 exact(asD _ _ hT).mono _ _ _ h3 (h aD h1 h2 fr main T hT c cs (fun v s' ⟨v',Y,e,⟨R,r1,r2⟩,pG⟩=>g1 v s' ⟨v',Y,e,⟨R,r1,fun b o hb=>r2 b o (h1 b o hb)⟩,pG⟩) (fun ch s' ⟨_,_,e,_⟩=>by cases e))
end Go.L
