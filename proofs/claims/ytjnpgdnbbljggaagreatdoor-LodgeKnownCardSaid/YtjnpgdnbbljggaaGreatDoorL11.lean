/- Part 11 of the proof. -/
import Derived.Test.YtjnpgdnbbljggaaGreatDoorL10
set_option maxRecDepth 100000
set_option maxHeartbeats 4000000
set_option linter.all false
namespace Go.L
open Go Go.Conc Go.Proofs
variable {ro:Nat→Option Obj} {l fi ca:List Value} {v u:Value} {Hb p d b1 b2 np q ck b3 j n y ne:Nat} {xs ys ds zs:List Int} {F:List (Int×Value)} {seen:List Nat} {κ:Type} {ch:cE} {D h b e x need nm hi:Int}
def lZ(f:aH→Int)(v:Int)(L:List aH):Int:=pY (fun t=>decide (f t=v)) L
structure CI(f:aH→Int)(F:List (Int×Value))(L:List aH):Prop where
 nd:(F.map (·.1)).Nodup
 val:∀x∈F,x.2= zI (lZ f x.1 L)
 key:∀t∈L,f t∈F.map (·.1)
theorem CI.nil{f:aH→Int}:CI f [] []:=⟨List.nodup_nil,by simp,by simp⟩
theorem Lx{f:aH→Int}{v:Int}{L:List aH}{t:aH}:lZ f v (L++[t])=lZ f v L+bif decide (f t=v) then 1 else 0:=by
 simp only[lZ,pY,List.countP_append,List.countP_cons,List.countP_nil]
 cases h:decide (f t=v)<;>simp_all
theorem DD{f:aH→Int}{v:Int}{L:List aH}(h:∀t∈L,f t≠v):lZ f v L=0:=by
 simp only[lZ,pY]
 rw[List.countP_eq_zero.2 (by simpa using h)];rfl
theorem amO{f:aH→Int}{v:Int}{L:List aH}:0≤lZ f v L∧lZ f v L≤L.length:=by
 have:=List.countP_le_length (p:=fun t=>decide (f t=v)) (l:=L)
 simp only[lZ,pY];omega
theorem vL[DecidableEq κ]{k:κ}:∀ {F:List (κ×Value)} {i:Nat},k∉F.map (·.1)→oe k F i=none
 | [],_,_=>rfl
 |x::l,i,h=>by
  simp only[List.map_cons,List.mem_cons,not_or] at h
  rw[oe,if_neg h.1,vL h.2]
theorem Qo:∀ {F:List (κ×Value)} {i:Nat} {k:κ} {v u:Value} {x:κ×Value},(F.map (·.1)).Nodup→F[i]?=some (k,u)→x∈qu k v F i→x=(k,v)∨(x∈F∧x.1≠k)
 | [],_,_,_,_,_,_,_,h=>by cases h
 |y::F,0,k,v,u,x,hn,hi,h=>by
  simp at hi;subst hi
  rcases List.mem_cons.1 h with h|h
  ·exact .inl h
  refine .inr ⟨List.mem_cons_of_mem _ h,fun e=>?_⟩
  simp only[List.map_cons,List.nodup_cons] at hn
  exact hn.1 (e▸List.mem_map_of_mem (f:=(·.1)) h)
 |y::F,i+1,k,v,u,x,hn,hi,h=>by
  simp at hi
  simp only[List.map_cons,List.nodup_cons] at hn
  rcases List.mem_cons.1 h with h|h
  ·subst h
   exact .inr ⟨List.mem_cons_self,fun e=>hn.1 (e▸List.mem_map_of_mem (f:=(·.1)) (zL hi))⟩
  exact(Qo hn.2 hi h).imp id fun h=>⟨List.mem_cons_of_mem _ h.1,h.2⟩
theorem CI.look{f:aH→Int}{L:List aH}(h:CI f F L)(k:Int):II (zI 0) false k F= zI (lZ f k L):=by
 simp only[II,lkM]
 cases hf:oe k F 0 with
 |none=>
  have h1:=xN hf
  rw[DD (f:=f) fun t ht e=>h1 (by rw[←e];exact h.key t ht)];rfl
 |some u=>
  obtain⟨j,u⟩:=u
  have:=(nS hf).2
  have:=h.val _ (zL this)
  simp at this;simp[this]
theorem CI.upd{f:aH→Int}{F1:List (Int×Value)}{L:List aH}{t:aH}(h:CI f F L)(h1:((∃u,oe (f t) F 0=some u)∧F1=F)∨(oe (f t) F 0=none∧F1=F++[(f t,zI 0)])):CI f (eQ (f t) (zI (lZ f (f t) L+1)) F1) (L++[t]):=by
 have e1:lZ f (f t) (L++[t])=lZ f (f t) L+1:=by rw[Lx,decide_eq_true rfl];rfl
 have e2:∀k,k≠f t→lZ f k (L++[t])=lZ f k L:=fun k hk=>by rw[Lx,decide_eq_false fun e=>hk e.symm];simp
 have hF1:(F1.map (·.1)).Nodup∧(∀x∈F1,x.1≠f t→x∈F)∧(∀k∈F.map (·.1),k∈F1.map (·.1))∧∃u,oe (f t) F1 0=some u:=by
  rcases h1 with ⟨hu,rfl⟩| ⟨hf,rfl⟩
  ·exact⟨h.nd,fun x hx _=>hx,fun _ hk=>hk,hu⟩
  refine⟨?_,fun x hx cF=>?_,fun k hk=>by simp at hk ⊢;exact .inl hk,_,xM hf⟩
  ·rw[List.map_append]
   exact List.nodup_append.2 ⟨h.nd,by simp,fun a ha b hb KX=>by simp at hb;subst hb;subst KX;exact xN hf ha⟩
  rcases List.mem_append.1 hx with hx|hx
  ·exact hx
  simp at hx;subst hx;exact absurd rfl cF
 obtain⟨hn,ho,hk,⟨j,u⟩,hf⟩:=hF1
 have hu:=(nS hf).2
 rw[Nat.sub_zero] at hu
 have ZS:eQ (f t) (zI (lZ f (f t) L+1)) F1=qu (f t) (zI (lZ f (f t) L+1)) F1 j:=by simp only[eQ,hf]
 rw[ZS]
 refine⟨by rw[FE hu];exact hn,fun x hx=>?_,fun s hs=>?_⟩
 ·rcases Qo hn hu hx with rfl| ⟨hx,cF⟩
  ·rw[e1]
  rw[e2 _ cF];exact h.val _ (ho _ hx cF)
 rw[FE hu]
 rcases List.mem_append.1 hs with hs|hs
 ·exact hk _ (h.key s hs)
 simp at hs;subst hs
 exact List.mem_map.2 ⟨_,zL hu,rfl⟩
def Kv(f:aH→Int)(L:List aH):Int:=(L.map fun t=>lZ f (f t) L).foldl max 0
def Ix(f:aH→Int)(L:List aH)(m:Int):Prop:=0≤m∧(∀v,lZ f v L≤m)∧(m=0∨∃v,lZ f v L=m)
theorem foldl_max:∀(l:List Int) (a:Int),a≤l.foldl max a∧(∀x∈l,x≤l.foldl max a)∧(l.foldl max a=a∨l.foldl max a∈l)
 | [],a=>by simp
 |x::l,a=>by
  obtain⟨h1,h2,h3⟩:=foldl_max l (max a x)
  rw[List.foldl_cons]
  refine⟨by omega,fun y hy=>?_,?_⟩
  ·rcases List.mem_cons.1 hy with rfl|hy
   ·omega
   exact h2 y hy
  rcases h3 with h3|h3
  ·rcases Int.le_total a x with h|h
   ·exact .inr (by rw[h3,Int.max_eq_right h];simp)
   exact .inl (by rw[h3,Int.max_eq_left h])
  exact .inr (by simp[h3])
theorem MX(f:aH→Int)(L:List aH):Ix f L (Kv f L):=by
 obtain⟨h1,h2,h3⟩:=foldl_max (L.map fun t=>lZ f (f t) L) 0
 refine⟨h1,fun v=>?_,h3.imp id fun h=>?_⟩
 ·by_cases hv:∃t∈L,f t=v
  ·obtain⟨t,ht,rfl⟩:=hv
   exact h2 _ (List.mem_map_of_mem (f:=fun t=>lZ f (f t) L) ht)
  rw[DD fun t ht e=>hv ⟨t,ht,e⟩];exact h1
 obtain⟨t,_,e⟩:=List.mem_map.1 h
 exact⟨_,e⟩
theorem Ix.eq{f:aH→Int}{L L':List aH}{a:Int}(hL:L.Perm L')(h:Ix f L a)(h':Ix f L' b):a=b:=by
 have e:∀v,lZ f v L=lZ f v L':=fun v=>DF hL
 obtain⟨h1,h2,h3⟩:=h
 obtain⟨k1,k2,k3⟩:=h'
 have ab:a≤b:=by
  rcases h3 with rfl| ⟨v,hv⟩
  ·exact k1
  rw[←hv,e];exact k2 v
 have ba:b≤a:=by
  rcases k3 with rfl| ⟨v,hv⟩
  ·exact h1
  rw[←hv,←e];exact h2 v
 omega
theorem T8{f:aH→Int}{L L':List aH}(h:L.Perm L'):Kv f L=Kv f L':=(MX f L).eq h (MX f L')
theorem CI.mX{f:aH→Int}{L:List aH}{m:Int}(h:CI f F L)(h0:0≤m)(h1:∀x∈F,∀n,x.2= zI n→n≤m)(h2:m=0∨∃x∈F,x.2= zI m):m=Kv f L:=by
 refine Ix.eq (.refl _) ⟨h0,fun v=>?_,h2.imp id fun⟨x,hx,e⟩=>?_⟩ (MX f L)
 ·by_cases hv:v∈F.map (·.1)
  ·obtain⟨x,hx,rfl⟩:=List.mem_map.1 hv
   exact h1 x hx _ (h.val x hx)
  rw[DD (f:=f) fun t ht e=>hv (by rw[←e];exact h.key t ht)];exact h0
 have:=h.val x hx
 rw[e] at this
 exact⟨x.1,by simpa using this.symm⟩
def cm.g(K:cm)(w:List Int):ah→ah:=match K.ways,w with
 |l::_,i::_=>(match l[i.toNat]? with
  |some c=>pL K.str c
  |none=>id)
 |_,_=>id
theorem P5{K:cm}(hW:s7 K.ways):K.ways=[]∨∃l,K.ways=[l]:=by
 have:=hW.one
 match hw:K.ways,this with
 | [],_=>exact .inl rfl
 | [l],_=>exact .inr ⟨l,rfl⟩
 |_::_::_,h=>simp at h
theorem yw{α:Type}{a x:α}(h: [a][j]?=some x):j=0∧x=a:=by
 cases j with
 |zero=>simp at h;exact⟨rfl,h.symm⟩
 |succ j=>simp at h
theorem Mg{K:cm}{w:List Int}{l:List cE}{s:Nat}(hW:s7 K.ways)(hm:w∈K.W)(hl:K.ways[s]?=some l) (hs:s <w.length):s=0∧∃(i:Nat) (c:cE),w=[(i:Int)]∧l[i]?=some c∧iE c∧K.g w=pL K.str c:=by
 rcases P5 hW with e| ⟨lw,e⟩
 ·rw[e] at hl;simp at hl
 rw[e] at hl
 obtain⟨rfl,rfl⟩:=yw hl
 simp only[cm.W,e,dz,List.map_map,List.mem_map,List.mem_range,Function.comp,ajl] at hm
 obtain⟨i,hi,rfl⟩:=hm
 refine⟨rfl,i,l[i],rfl,List.getElem?_eq_getElem hi,(hW.ok _ (by simp[e])).2 _ (List.getElem_mem hi),?_⟩
 simp only[cm.g,e,Int.toNat_natCast,List.getElem?_eq_getElem hi]
theorem YD{K:cm}{w:List Int}(hW:s7 K.ways)(hm:w∈K.W):w.length=K.ways.length∧w.length≤1∧(w.length=0→K.g w=id):=by
 rcases P5 hW with e| ⟨lw,e⟩
 ·simp only[cm.W,e,dz,List.map_cons,List.map_nil,List.mem_singleton] at hm
  subst hm
  exact⟨by rw[e];rfl,by simp,fun _=>by simp only[cm.g,e]⟩
 simp only[cm.W,e,dz,List.map_map,List.mem_map,List.mem_range,Function.comp,ajl] at hm
 obtain⟨i,hi,rfl⟩:=hm
 exact⟨by rw[e];rfl,by simp,fun h=>by simp at h⟩
def tw(hs:List ah)(k:Nat):List (ah×Value):=(List.range k).filterMap fun(i:Nat)=>(hs[i]?).map fun h=>(h,zI (i:Int))
theorem Kq{hs:List ah}{k:Nat}{x:ah}(h:hs[k]?=some x):tw hs (k+1)=tw hs k++[(x,zI (k:Int))]:=by
 simp only[tw,List.range_succ,List.filterMap_append];simp[h]
theorem uw{hs:List ah}{k:Nat}{p:ah×Value}:p∈tw hs k↔∃i x,i <k∧hs[i]?=some x∧p=(x,zI (i:Int)):=by
 simp only[tw,List.mem_filterMap,List.mem_range,Option.map_eq_some_iff]
 constructor
 ·rintro⟨i,hi,x,hx,rfl⟩;exact⟨i,x,hi,hx,rfl⟩
 rintro⟨i,x,hi,hx,rfl⟩;exact⟨i,hi,x,hx,rfl⟩
theorem ad5{hs:List ah}(hn:hs.Nodup){k:Nat}{x:ah}(h:hs[k]?=some x):eQ x (zI (k:Int)) (tw hs k)=tw hs (k+1):=by
 have:x∉(tw hs k).map (·.1):=fun hx=>by
  obtain⟨p,hp,rfl⟩:=List.mem_map.1 hx
  obtain⟨i,y,hi,hy,rfl⟩:=uw.1 hp
  have h1:=List.getElem?_eq_some_iff.1 h
  have h2:=List.getElem?_eq_some_iff.1 hy
  obtain⟨h1,e1⟩:=h1;obtain⟨h2,e2⟩:=h2
  have:=(List.getElem_inj (h₀:=h1) (h₁:=h2) hn).1 (e1.trans e2.symm)
  omega
 rw[Kq h,eQ,vL this]
theorem akv{hs:List ah}(hn:hs.Nodup):((tw hs hs.length).map (·.1)).Nodup:=by
 have:(tw hs hs.length).map (·.1)=hs:=by
  have h:∀k,k≤hs.length→(tw hs k).map (·.1)=hs.take k:=by
   intro k
   induction k with
   |zero=>intro _;simp[tw]
   |succ k ih=>
    intro hk
    rw[Kq (List.getElem?_eq_getElem (show k <hs.length by omega)),List.map_append,ih (by omega),List.take_add_one,List.getElem?_eq_getElem (show k <hs.length by omega)];rfl
  rw[h _ (Nat.le_refl _),List.take_length]
 rw[this];exact hn
def Rv(g:ah→ah)(p:ah×Value):ah×Value:=(g p.1,p.2)
def ana(hs:List ah)(g:ah→ah)(F:List (ah×Value)):Prop:=∃S:List (ah×Value),S.Perm (tw hs hs.length)∧F=S.map (Rv g)
theorem aqo{hs:List ah}:ana hs id (tw hs hs.length):=⟨tw hs hs.length,.refl _,by rw[show Rv id=id by funext p;rfl,List.map_id]⟩
def ail(hs:List ah)(g:ah→ah):Prop:=∀a∈hs,∀b∈hs,g a=g b→a=b
def OW(hs:List ah)(g:ah→ah)(x:ah):Int:=c9 (fun h=>decide (g h=x)) hs 0
def YE(hs:List ah)(g:ah→ah)(x:ah):Int:=bif decide (OW hs g x≥0) then OW hs g x else 0
theorem RJ{α:Type}{p:α→Bool}:∀ {l:List α} {k:Nat},(c9 p l k= -1∧∀x∈l,p x=false)∨∃i x,l[i]?=some x∧p x=true∧c9 p l k=((k+i:Nat):Int)
 | [],k=> .inl ⟨rfl,by simp⟩
 |y::l,k=>by
  simp only[c9]
  cases hy:p y with
  |true=>exact .inr ⟨0,y,rfl,hy,by simp⟩
  |false=>
   rcases RJ (p:=p) (l:=l) (k:=k+1) with ⟨h1,h2⟩| ⟨i,x,h1,h2,h3⟩
   ·exact .inl ⟨h1,fun x hx=>(List.mem_cons.1 hx).elim (fun e=>e▸hy) (h2 x)⟩
   exact .inr ⟨i+1,x,by simpa using h1,h2,by simp only[cond_false];rw[h3];congr 1;omega⟩
theorem abI{hs:List ah}{g:ah→ah}{F:List (ah×Value)}(hn:hs.Nodup)(hg:ail hs g)(h:ana hs g F)(x:ah):II (zI 0) true x F= .tuple ⟨[zI (YE hs g x),.bool (decide (OW hs g x≥0))]⟩:=by
 obtain⟨S,hS,rfl⟩:=h
 simp only[II,lkM]
 rcases RJ (p:=fun h=>decide (g h=x)) (l:=hs) (k:=0) with ⟨h1,h2⟩| ⟨i,y,h1,h2,h3⟩
 ·have tL:x∉(S.map (Rv g)).map (·.1):=fun hx=>by
   obtain⟨q,hq,rfl⟩:=List.mem_map.1 hx
   obtain⟨p,hp,rfl⟩:=List.mem_map.1 hq
   obtain⟨j,z,_,hz,rfl⟩:=uw.1 (hS.mem_iff.1 hp)
   have:=h2 z (zL hz)
   simp[Rv] at this
  rw[vL tL]
  simp[YE,OW,h1]
 rw[Nat.zero_add] at h3
 have hgx:g y=x:=by simpa using h2
 have fM:(x,Value.int .i64 (i:Int))∈S.map (Rv g):=List.mem_map.2 ⟨(y,zI (i:Int)),hS.mem_iff.2 (uw.2 ⟨i,y,(List.getElem?_eq_some_iff.1 h1).1,h1,rfl⟩),by simp[Rv,hgx]⟩
 cases hf:oe x (S.map (Rv g)) 0 with
 |none=>exact absurd (List.mem_map_of_mem (f:=(·.1)) fM) (xN hf)
 |some u=>
  obtain⟨j,u⟩:=u
  have hu:=zL (nS hf).2
  obtain⟨p,hp,qT⟩:=List.mem_map.1 hu
  obtain⟨k,z,_,hz,rfl⟩:=uw.1 (hS.mem_iff.1 hp)
  simp only[Rv,Prod.mk.injEq] at qT
  have hzy:z=y:=hg _ (zL hz) _ (zL h1) (qT.1.trans hgx.symm)
  subst hzy
  have hik:k=i:=by
   obtain⟨a1,b1⟩:=List.getElem?_eq_some_iff.1 hz
   obtain⟨a2,b2⟩:=List.getElem?_eq_some_iff.1 h1
   exact(List.getElem_inj (h₀:=a1) (h₁:=a2) hn).1 (b1.trans b2.symm)
  subst hik
  simp[←qT.2,YE,OW,h3]
def G7:Value→ah
 | .agg ⟨[.int _ a,.int _ b,.int _ c]⟩=>⟨a,b,c⟩
 |_=>⟨0,0,0⟩
def Yu(es:Array MapEntry)(F:List (ah×Value))(seen:List Nat)(S:List (ah×Value)):Prop:=(S++(cZ es seen).map fun e=>(G7 e.key,e.val)).Perm F
theorem Yu.start{es:Array MapEntry}{F:List (ah×Value)}(hE:oW lv F es ck):Yu es F [] []:=by
 have h:=congrArg (List.map fun x:Value×Value=>(G7 x.1,x.2)) hE.1
 simp only[List.map_map,Function.comp_def] at h
 have e:(F.map fun x=>(G7 (lv x.1),x.2))=F:=by
  have:(fun x:ah×Value=>(G7 (lv x.1),x.2))=id:=by funext x;rfl
  rw[this,List.map_id]
 simp only[Yu,uC,List.nil_append]
 rw[h,e]
theorem Yu.step{es:Array MapEntry}{F:List (ah×Value)}{S:List (ah×Value)}{e:MapEntry}{k:ah}(h:Yu es F seen S)(hE:oW lv F es ck)(he:e∈cZ es seen)(hk:e.key=lv k)(hv:e.val=v):Yu es F (seen++[e.born]) (S++[(k,v)]):=by
 refine List.Perm.trans ?_ h
 have h1:=((G4 hE he).map fun e=>(G7 e.key,e.val)).symm
 rw[List.map_cons,hk,hv] at h1
 rw[List.append_assoc]
 exact .append_left _ h1
theorem Yu.fin{es:Array MapEntry}{F:List (ah×Value)}{S:List (ah×Value)}(h:Yu es F seen S)(he:cZ es seen=[]):S.Perm F:=by
 simpa [Yu,he] using h
theorem Yu.new{es:Array MapEntry}{F:List (ah×Value)}{S:List (ah×Value)}{e:MapEntry}{k:ah}(h:Yu es F seen S)(hn:(F.map (·.1)).Nodup)(he:e∈cZ es seen)(hk:e.key=lv k):k∉S.map (·.1)∧∀p∈S,p∈F:=by
 have hp:=h.map (·.1)
 have h2:=(hp.nodup_iff).2 hn
 rw[List.map_append] at h2
 refine⟨fun fe=>?_,fun p hp=>h.mem_iff.1 (List.mem_append_left _ hp)⟩
 have Fe:k∈((cZ es seen).map fun e=>(G7 e.key,e.val)).map (·.1):=by
  rw[List.map_map]
  exact List.mem_map.2 ⟨e,he,by simp[hk,G7,lv,bW]⟩
 exact(List.nodup_append.1 h2).2.2 _ fe _ Fe rfl
theorem ai4{hs:List ah}{g:ah→ah}{es:Array MapEntry}{S:List (ah×Value)}{e:MapEntry}{k:ah}(hn:hs.Nodup)(hg:ail hs g)(h:Yu es (tw hs hs.length) seen S)(he:e∈cZ es seen)(hk:e.key=lv k)(hkh:k∈hs):eQ (g k) v (S.map (Rv g))=(S++[(k,v)]).map (Rv g):=by
 obtain⟨h1,h2⟩:=h.new (akv hn) he hk
 have tL:g k∉(S.map (Rv g)).map (·.1):=fun hx=>by
  obtain⟨q,hq,hqe⟩:=List.mem_map.1 hx
  obtain⟨p,hp,rfl⟩:=List.mem_map.1 hq
  obtain⟨i,z,_,hz,rfl⟩:=uw.1 (h2 p hp)
  have:=hg _ (zL hz) _ hkh hqe
  subst this
  exact h1 (List.mem_map_of_mem (f:=(·.1)) hp)
 rw[eQ,vL tL]
 simp[Rv]
theorem anS{S:List (List az)}(hc:iE ch)(yG:bU ro v S)(hO:eG S):dX zT 203 [.agg ⟨[v]⟩,.agg ⟨nU ch⟩] ro [] (fun r Y=>∃rm F LM Z,r= .tuple ⟨[.map (some rm),zI 0]⟩∧Y=LM++Z∧fH rm lv F LM∧F.map (·.1)=aG S∧MV Z F (pL S ch)):=by
 refine zE<|zD 2<|jn fun b2=>jn fun b3=>jd 7 [1]<|jp (vs:=[.agg ⟨[v]⟩]) [] [] (fun aV hs hZ=>agI (yG.up hs) hO)<|jd 13 [1,0]<|jc (vs:=[.agg ⟨[v]⟩,.agg ⟨[zI ch.k,zI ch.st,zI ch.ot,zI ch.fn,zI ch.fl,zI ch.tn,zI ch.tl]⟩]) [] (aEc hc yG hO) ?_
 rintro _ _ ⟨r9,F9,LM9,Z9,rfl,rfl,hm9,OM,hM9⟩
 refine jg 0 [.l LM9,.l Z9]<|zD 6<|zR (.tuple ⟨[(.map (some r9)),zI 0]⟩) [] [0,1] (LM9++Z9) ⟨_,F9,LM9,Z9,rfl,rfl,hm9,OM,hM9⟩
theorem acH{S:List (List az)}{y:ah}(hc:iE ch)(yG:bU ro v S)(hO:eG S)(hy:y∈aG S):dX zT 138 [.agg ⟨[v]⟩,.agg ⟨nU ch⟩,.agg ⟨[zI y.h,zI y.n,zI y.l]⟩] ro [] (fun r Y=>∃a n c,r= .tuple ⟨[.slice a n c,zI 0]⟩∧∀tS,Knows tS Y→cD tS (.slice a n c) 3 bW [pL S ch y]):=by
 refine zE<|zD 2<|jn fun b3=>jn fun b4=>jn fun b5=>jd 7 [2,1]<|jc (vs:=[.agg ⟨[v]⟩,.agg ⟨[zI ch.k,zI ch.st,zI ch.ot,zI ch.fn,zI ch.fl,zI ch.tn,zI ch.tl]⟩]) [] (anS hc yG hO) ?_
 rintro _ _ ⟨r9,F9,LM9,Z9,rfl,rfl,hm9,OM,hM9⟩
 obtain⟨es9,ck9,rfl,hE9⟩:=hm9
 refine jg 0 [.b r9 (.map es9 ck9),.l Z9]<|zD 5<|jf [0,1] ((r9,.map es9 ck9)::Z9) (fun yW cR fe=>?_)
 have SO:JM yW r9 (aG S) (pL S ch) es9 ck9 F9:=⟨fe _ (.head _),hE9,OM,hM9 _ (Knows.tail fe)⟩
 refine jd 13 [0]<|jlu (kv:=lv) (F:=F9) (r:=r9) (K:=41) y (zS) true [] [] wA (fun s he _=>⟨_,_,he _ _ (.inl SO.m),SO.e⟩) ?_
 obtain⟨w28,as8,afN⟩:=M5 (k:=y) (F:=F9) (by rw[SO.k];exact hy)
 have hww:cD yW w28 3 bW [pL S ch y]:=SO.v _ afN
 obtain⟨E5,qwb,qwo,A2,rfl,qwk,TE,TD⟩:=hww
 refine jw 24 (.tuple ⟨[.slice E5 ([pL S ch y].length) A2,.bool true]⟩) (show II (zS) true y F9=_ from by simp only[II,as8];rfl) ?_
 refine zD 17<|jc (vs:=[.slice E5 ([pL S ch y].length) A2]) [] (NC (show cD _ _ _ _ _ from ⟨E5,qwb,qwo,A2,rfl,qwk,TE,TD⟩) (by simp only[List.length_cons,List.length_nil];omega)) ?_
 rintro v30 L30 Q0
 obtain⟨aJw,aJc,aPi⟩:=Q0.form
 subst aPi
 refine zD 4<|aS q0.a (.tuple ⟨[(.slice aJw ([pL S ch y]).length aJc),zI 0]⟩) [] [0] L30 cR ⟨_,_,rfl,rfl,_,_,_,rfl,fun tS hk=>Q0.n9 hk⟩
theorem arb{S:List (List az)}(hc:iE ch)(yG:bU ro v S)(hO:eG S):dX zT 139 [.agg ⟨[v]⟩,.agg ⟨nU ch⟩] ro [] (fun r Y=>∃a n c,r= .tuple ⟨[.agg ⟨[.slice a n c]⟩,zI 0]⟩):=by
 have hS:=yG
 obtain⟨p5,hs,iV⟩:=hS
 obtain⟨w1,rfl⟩:=C0 (iV.len.trans hO.two)
 obtain⟨xp,qsb,qso,vi,rfl,qsk,Zd,Zc⟩:=hs
 refine zE<|zD 2<|jn fun b2=>jn fun b3=>jn fun b4=>jd 6 [2,1]<|jc (vs:=[.agg ⟨[.slice xp 1 vi]⟩,.agg ⟨[zI ch.k,zI ch.st,zI ch.ot,zI ch.fn,zI ch.fl,zI ch.tn,zI ch.tl]⟩]) [] (anS hc yG hO) ?_
 rintro _ _ ⟨r9,F9,LM9,Z9,rfl,rfl,hm9,OM,hM9⟩
 obtain⟨es9,ck9,rfl,hE9⟩:=hm9
 refine jg 0 [.b r9 (.map es9 ck9),.l Z9]<|zD 5<|jf [0,1] ((r9,.map es9 ck9)::Z9) (fun yW cR fe=>?_)
 have SO:JM yW r9 (aG S) (pL S ch) es9 ck9 F9:=⟨fe _ (.head _),hE9,OM,hM9 _ (Knows.tail fe)⟩
 refine jd 15 [2]<|jc (vs:=[(.map (some r9)),zI 1]) [] (Vi SO (lA hO) (fun x hx=>T6 hc (Hq hO (by rw[←OM];exact List.mem_map_of_mem (f:=(·.1)) hx)))) ?_
 rintro _ L22 ⟨a22,n22,c22,rfl⟩
 refine jd 4 [1]<|aS q0.a (.tuple ⟨[.agg ⟨[.slice a22 n22 c22]⟩,zI 0]⟩) [1] [] [] cR ⟨_,_,rfl,rfl,_,_,_,rfl⟩
theorem aMe{W:fy}{K:cm}{w:List Int}(hH0:ro Hb=some (.cells ⟨W.cells u⟩ 105 (0,0)))(yG:bU ro W.a0 K.str)(hT0:lG ro W.a1 K.ways)(hh0:cD ro (.slice W.ha W.H W.ek) 3 bW (aG K.str))(hC:JN K)(hj:ail (aG K.str) (K.g w))(hw:cD ro v 1 dc w)(hm:w∈K.W):dX zT 98 [zP Hb,v] ro [] (fun r Y=>∃rm F,r= .map (some rm)∧fH rm lv F Y∧ana (aG K.str) (K.g w) F):=by
 obtain⟨ov,TN,TJ,od,Ju,TK,SD,SC⟩:=hh0
 obtain⟨mQ,ht0,kz⟩:=hT0
 obtain⟨iZ,I9,I7,gk,qx,I8,xo,xm⟩:=ht0
 obtain⟨E5,qwb,qwo,A2,rfl,qwk,TE,TD⟩:=hw
 have hH:ro Hb=some (.cells ⟨[W.a0,.slice iZ mQ.length gk,W.a2,W.a3,W.a4,zI W.D,zI W.S,W.a7,.slice ov ((aG K.str).length) od,u,W.DR]⟩ 105 (0,0)):=by rw[←Ju,←qx];exact hH0
 have gX:(aG K.str).Nodup:=Hh hC.qv _
 obtain⟨hw1,hw2,hw3⟩:=YD hC.ways hm
 have AK:=kz.len
 have hhl:=lA hC.qv
 refine zE<|zD 6<|jmk lv fun r19 L19 atK=>zD 8<|jl (b:=Hb) (off:=0) (m:=11) (vs:=[W.a0,.slice iZ mQ.length gk,W.a2,W.a3,W.a4,zI W.D,zI W.S,W.a7,.slice ov ((aG K.str).length) od,u,W.DR]) 8 ⟨_,_,_,.inl hH,rfl⟩<|zD 4<|fX [1,1,0,1,0,0] [] (fun(zz:Nat×Cells)=>[(0,zP Hb),(1,.slice E5 w.length A2),(4,(.map none)),(5,(.map (some r19))),(23,.slice ov ((aG K.str).length) od),(24,zI ((aG K.str).length:Int)),(25,zI (zz.1:Int))]) (fun zz=>[.l zz.2]) (fun zz=>zz.1≤(aG K.str).length∧fH r19 lv (tw (aG K.str) zz.1) zz.2) (fun zz=>(aG K.str).length-zz.1) (⟨0,L19⟩) ⟨Nat.zero_le _,atK⟩ [0] ?_
 rintro⟨k,LM⟩ hI K1 cz rest
 dsimp only at hI
 refine zD 5<|zJ 26 ((k:Int) <((aG K.str).length:Int)) (fun h1=>?_) fun h1=>?_
 ·
  refine zD 7 ?_
  obtain⟨x28,as2⟩:=zG ((aG K.str)) k
  refine jq od 3 SD as2<|jl 0 (SC _ _ as2)<|jn fun b7=>jd 7 [0,0]<|Ut (kv:=lv) (F:=(tw (aG K.str) k)) (r:=r19) (K:=41) 1 x28 (zI (k:Int)) wA hI.2 fun Lm2 IP=>zD 2<|zW ((k:Int)+1)<|zD 2<|zF cz (⟨k+1,Lm2⟩) (by dsimp only;rw[←ad5 gX as2];exact IP) [0]
 refine zD 9<|jl (b:=Hb) (off:=0) (m:=11) (vs:=[W.a0,.slice iZ mQ.length gk,W.a2,W.a3,W.a4,zI W.D,zI W.S,W.a7,.slice ov ((aG K.str).length) od,u,W.DR]) 0 ⟨_,_,_,.inl hH,rfl⟩<|jn fun b8=>jsx 0 b8 0 [zS] [W.a0] 24 (by obtain⟨_,h,_⟩:=yG;simp[j5 h]) rfl ?_
 refine zD 9<|fX [1,1,1,1,0,1,0,0] [] (fun(zz:Nat×Nat×(List (ah×Value))×Cells×Value)=>[(0,zP Hb),(4,(.map none)),(5,(.map (some zz.2.1))),(8,zP b8),(40,.slice E5 w.length A2),(41,zI (w.length:Int)),(42,zI (zz.1:Int))]) (fun(zz:Nat×Nat×(List (ah×Value))×Cells×Value)=>[.b b8 (.cells ⟨[zz.2.2.2.2]⟩ 24 (0,0)),.l zz.2.2.2.1]) (fun(zz:Nat×Nat×(List (ah×Value))×Cells×Value)=>(zz.1≤w.length)∧fH zz.2.1 lv zz.2.2.1 zz.2.2.2.1∧(zz.1=0→zz.2.2.2.2=W.a0∧zz.2.2.1=tw (aG K.str) (aG K.str).length)∧(zz.1=w.length→ana (aG K.str) (K.g w) zz.2.2.1)) (fun(zz:Nat×Nat×(List (ah×Value))×Cells×Value)=>w.length-zz.1) (⟨0,r19,(tw (aG K.str) (aG K.str).length),LM,W.a0⟩) ⟨Nat.zero_le _,by have:=hI.2;rwa[show k=(aG K.str).length by omega] at this,fun _=>⟨rfl,rfl⟩,fun h=>by rw[hw3 (by omega)];exact aqo⟩ [0,1] ?_
 rintro⟨s,rm,F,LM,vP⟩ hJ K2 oy rest
 dsimp only at hJ
 refine zD 5<|zJ 43 ((s:Int) <(w.length:Int)) (fun h3=>?_) fun h3=>?_
 ·
  refine zD 7 ?_
  obtain⟨I2,xG⟩:=zG w s
  refine jq A2 1 TE xG<|jl 0 (TD _ _ xG)<|zD 10<|jl (b:=Hb) (off:=0) (m:=11) (vs:=[W.a0,.slice iZ mQ.length gk,W.a2,W.a3,W.a4,zI W.D,zI W.S,W.a7,.slice ov ((aG K.str).length) od,u,W.DR]) 1 ⟨_,_,_,.inl hH,rfl⟩<|zD 1 ?_
  obtain⟨x54,asY⟩:=zG mQ s
  refine jq gk 1 xo asY<|zD 1 ?_
  obtain⟨l56,aac,h56⟩:=kz.get asY
  obtain⟨aKQ,aKP,aKN,arx,rfl,aKO,arw,arv⟩:=h56
  refine jl 0 (xm _ _ asY)<|zD 1 ?_
  obtain⟨tR,QK⟩:=zG l56 (I2.toNat) (by obtain⟨_,i0,cc,hwx,qU,_⟩:=Mg hC.ways hm aac (show s <w.length by omega);have e:=(yw (by rw[hwx] at xG;exact xG)).2;have:=(List.getElem?_eq_some_iff.1 qU).1;omega)
  refine jsi I2 arx 7 arw QK (Int.toNat_of_nonneg (show 0≤I2∧I2 <((l56).length:Int) from (by obtain⟨_,i0,cc,hwx,qU,_⟩:=Mg hC.ways hm aac (show s <w.length by omega);have e:=(yw (by rw[hwx] at xG;exact xG)).2;have:=(List.getElem?_eq_some_iff.1 qU).1;omega)).1).symm ?_
  refine jl 0 (arv _ _ QK)<|jn fun I0=>jd 4 [0]<|jmk lv fun r60 L60 aOo=>zD 4 ?_
  obtain⟨A4,i0,cc,hwx,qU,Rg,hgw⟩:=Mg hC.ways hm aac (show s <w.length by omega)
  have aPB:l56[i0]?=some tR:=by have e:=(yw (by rw[hwx] at xG;exact xG)).2;rw[e] at QK;simpa using QK
  obtain rfl:tR=cc:=Option.some.inj (aPB.symm.trans qU)
  obtain⟨hvP,hFn⟩:=hJ.2.2.1 A4
  subst hFn
  have hSP:bU ro vP K.str:=by rw[hvP];exact yG
  obtain⟨esM,ckM,rfl,hEM⟩:=hJ.2.1
  refine jg 3 [.b rm (.map esM ckM)]<|zD 1<|jf [3] [(rm,.map esM ckM)] fun ro6 nz Ck=>zD 1<|jmR (Ck _ (.head _)) fun r62=>jg 0 [.b r62 (qP rm ckM [])]<|zD 2<|fX [1,1,1,1,0,1,0,0,1,1,0,0,1,1,1,0,1,0,0] [K2] (fun(zz:(List Nat)×(List (ah×Value))×Cells)=>[(0,zP Hb),(4,(.map none)),(5,(.map (some rm))),(8,zP b8),(11,zP I0),(12,(.map (some r60))),(40,.slice E5 w.length A2),(41,zI (w.length:Int)),(42,zI (s:Int)),(62,zP r62)]) (fun(zz:(List Nat)×(List (ah×Value))×Cells)=>[.b r62 (qP rm ckM zz.1),.l zz.2.2,.b I0 (.cells ⟨[zI tR.k,zI tR.st,zI tR.ot,zI tR.fn,zI tR.fl,zI tR.tn,zI tR.tl]⟩ 92 (0,0)),.b b8 (.cells ⟨[vP]⟩ 24 (0,0))]) (fun(zz:(List Nat)×(List (ah×Value))×Cells)=>fH r60 lv (zz.2.1.map (Rv (K.g w))) zz.2.2∧Yu esM (tw (aG K.str) (aG K.str).length) zz.1 zz.2.1) (fun(zz:(List Nat)×(List (ah×Value))×Cells)=>(cZ esM zz.1).length) (⟨[],[],L60⟩) ⟨aOo,Yu.start hEM⟩ (zN 0 4) ?_
  rintro⟨seen,S,LN⟩ hQ K3 hK3 rest
  dsimp only at hQ
  refine zD 2<|jmN (it:=r62) (kv:=lv) (seen:=seen) 0 (Ck _ (.head _)) hEM (fun Xj v63 e63 aOV al7 atX aBJ=>?_) (fun aM6=>?_)
  ·
   have aOj:=uw.1 aOV
   obtain⟨i63,hkh,aBH⟩:∃i:Nat,Xj∈aG K.str∧v63= zI (i:Int):=by obtain⟨i,y,_,hy,hp⟩:=aOj;cases hp;exact⟨i,zL hy,rfl⟩
   subst aBH
   refine jg 0 [.b r62 (qP rm ckM (seen++[e63.born]))]<|zD 8<|jmE (it:=r62) 0 (Ck _ (.head _)) hEM al7 atX aBJ<|jg 0 [.b r62 (qP rm ckM (seen++[e63.born]))]<|zD 2<|jn fun LI=>jd 8 [0,4,3,0]<|jc (vs:=[.agg ⟨[vP]⟩,.agg ⟨[zI tR.k,zI tR.st,zI tR.ot,zI tR.fn,zI tR.fl,zI tR.tn,zI tR.tl]⟩,.agg ⟨[zI Xj.h,zI Xj.n,zI Xj.l]⟩]) [] (acH (y:=Xj) Rg (hSP.up nz) hC.qv hkh) ?_
   rintro _ Y72 ⟨ba,bn,bc,rfl,aRk⟩
   refine zD 8<|jf [0] Y72 (fun ro9 Ci hk8=>?_)
   have hB:=aRk _ hk8
   obtain⟨qBa,qBb,qBo,qBc,hBe,qBk,qBh,qBl⟩:=hB
   simp only[Value.slice.injEq] at hBe
   obtain⟨rfl,rfl,rfl⟩:=hBe
   refine zD 5<|fX [1,1,1,1,0,1,0,0,1,1,0,0,1,1,1,0,1,0,0,1,1,0,1,1,1,0,0] [K2,K3] (fun(zz:Nat×(List (ah×Value))×Cells)=>[(0,zP Hb),(4,(.map none)),(5,(.map (some rm))),(8,zP b8),(11,zP I0),(12,(.map (some r60))),(14,zI (i63:Int)),(40,.slice E5 w.length A2),(41,zI (w.length:Int)),(42,zI (s:Int)),(62,zP r62),(75,.slice ba ([pL K.str tR Xj].length) bc),(76,zI ([pL K.str tR Xj].length:Int)),(77,zI (zz.1:Int))]) (fun(zz:Nat×(List (ah×Value))×Cells)=>[.b r62 (qP rm ckM (seen++[e63.born])),.l zz.2.2,.b I0 (.cells ⟨[zI tR.k,zI tR.st,zI tR.ot,zI tR.fn,zI tR.fl,zI tR.tn,zI tR.tl]⟩ 92 (0,0)),.b b8 (.cells ⟨[vP]⟩ 24 (0,0))]) (fun(zz:Nat×(List (ah×Value))×Cells)=>(zz.1≤[pL K.str tR Xj].length)∧fH r60 lv zz.2.1 zz.2.2∧(zz.1=0→zz.2.1=S.map (Rv (K.g w)))∧(zz.1=1→zz.2.1=(S++[(Xj,Value.int .i64 (i63:Int))]).map (Rv (K.g w)))) (fun(zz:Nat×(List (ah×Value))×Cells)=>[pL K.str tR Xj].length-zz.1) (⟨0,(S.map (Rv (K.g w))),LN⟩) ⟨Nat.zero_le _,hQ.1,fun _=>rfl,fun h=>by omega⟩ (zN 1 4) ?_
   rintro⟨j,F3,L3⟩ hR K4 hK4 rest
   dsimp only at hR
   have OL: [pL K.str tR Xj].length=1:=rfl
   refine zD 5<|zJ 78 ((j:Int) <([pL K.str tR Xj].length:Int)) (fun A7=>?_) fun A7=>?_
   ·
    refine zD 6 ?_
    obtain⟨x79,asV⟩:=zG ([pL K.str tR Xj]) j
    refine jq bc 3 qBh asV<|jl 0 (qBl _ _ asV)<|jn fun b18=>jd 2 [0] ?_
    obtain⟨hj0,sD⟩:=yw asV
    refine jd 4 [0]<|Ut (kv:=lv) (F:=F3) (r:=r60) (K:=41) 2 x79 (zI (i63:Int)) wA hR.2.1 fun ang afP=>zD 2<|zW ((j:Int)+1)<|zD 2<|zF hK4 (⟨j+1,(eQ x79 (zI (i63:Int)) F3),ang⟩) ⟨afP,fun h=>by omega,fun _=>by dsimp only;rw[hR.2.2.1 (by omega),sD,←hgw];exact ai4 gX hj hQ.2 al7 atX hkh⟩ [2,0,3,4]
   refine zD 2<|eW hK3 (⟨(seen++[e63.born]),(S++[(Xj,Value.int .i64 (i63:Int))]),L3⟩) ⟨by dsimp only;rw[←hR.2.2.2 (by omega)];exact hR.2.1,hQ.2.step hEM al7 atX aBJ⟩ (xC al7) (zN 0 4) Ci
  refine jg 0 [.b r62 (qP rm ckM seen)]<|jd 9 [3,2]<|jc (vs:=[.agg ⟨[vP]⟩,.agg ⟨[zI tR.k,zI tR.st,zI tR.ot,zI tR.fn,zI tR.fl,zI tR.tn,zI tR.tl]⟩]) [] (arb Rg (hSP.up nz) hC.qv) ?_
  rintro _ Y88 ⟨aa,an,ac,rfl⟩
  refine jd 10 [4]<|zW ((s:Int)+1)<|zD 2<|eW oy (⟨s+1,r60,(S.map (Rv (K.g w))),LN,.slice aa an ac⟩) ⟨by dsimp only;omega,hQ.1,fun h=>by omega,fun _=>⟨S,hQ.2.fin aM6,rfl⟩⟩ (by dsimp only;omega) [4,2] nz
 refine zD 8<|zR ((.map (some rm))) [] [1] LM ⟨rm,F,rfl,hJ.2.1,hJ.2.2.2 (by omega)⟩
theorem akR{b lo hi:Nat}{T:TypeId}{x:aO}(h:ro b=some (.cells ⟨eX x⟩ T (0,0)))(hl:lo≤hi)(hh:hi≤4)(h4:lo <4):cD ro (.slice (some ⟨b,0+lo*1,none⟩) (hi-lo) (4-lo)) 1 dc (((fS x).take hi).drop lo):=by
 have h0:=bM (enc:=dc) (T:=T) (fS x) h (fun _ _=>rfl)
 have:=cD.part h0 hl (show hi≤(fS x).length from hh)
 rw[if_neg (show ¬(fS x).length=lo by simp[fS];omega)] at this
 by_cases e:lo=0
 ·subst e;simpa [Addr.add,fS] using this
 simpa [Addr.add,fS,e] using this
def qb(q:bH→Bool)(es:List bH):Nat→Int
 |0=>0
 |k+1=>match es[k]? with
  |some x=>bif q x then iOr .u8 (qb q es k) (eC .u8 1 (k:Int)) else qb q es k
  |none=>0
theorem aed{q:bH→Bool}{es:List bH}{k:Nat}{x:bH}(h:es[k]?=some x) (hq:q x=true):qb q es (k+1)=iOr .u8 (qb q es k) (eC .u8 1 (k:Int)):=by simp only[qb,h,hq,cond_true]
theorem aee{q:bH→Bool}{es:List bH}{k:Nat}{x:bH}(h:es[k]?=some x) (hq:q x=false):qb q es (k+1)=qb q es k:=by simp only[qb,h,hq,cond_false]
def inB(y:aO)(x:bH)(h:Int):Bool:=decide (c9 (fun z=>decide (h=z)) (((fS y).take (x.high+1).toNat).drop x.low.toNat) 0≥0)
def rk(nm:Int)(hm:bH→Int)(y:aO)(es:List bH):Nat→Int
 |0=>0
 |k+1=>match es[k]? with
  |some x=>bif lB nm (k:Int)&& !decide (hm x= -1)&&inB y x (hm x) then iOr .u8 (rk nm hm y es k) (eC .u8 1 (k:Int)) else rk nm hm y es k
  |none=>0
theorem akI{hm:bH→Int}{y:aO}{es:List bH}{k:Nat}{x:bH}(h:es[k]?=some x) (hq:(lB nm (k:Int)&& !decide (hm x= -1)&&inB y x (hm x))=true):rk nm hm y es (k+1)=iOr .u8 (rk nm hm y es k) (eC .u8 1 (k:Int)):=by simp only[rk,h,hq,cond_true]
theorem M1{hm:bH→Int}{y:aO}{es:List bH}{k:Nat}{x:bH}(h:es[k]?=some x) (hq:(lB nm (k:Int)&& !decide (hm x= -1)&&inB y x (hm x))=false):rk nm hm y es (k+1)=rk nm hm y es k:=by simp only[rk,h,hq,cond_false]
def Qq(f:aO→Int)(ls:List aO)(k:Nat):List (aO×Value):=(ls.take k).foldl (fun F y=>eQ y (.int .u8 (f y)) F) []
theorem Ky{f:aO→Int}{ls:List aO}{k:Nat}{y:aO}(h:ls[k]?=some y):Qq f ls (k+1)=eQ y (.int .u8 (f y)) (Qq f ls k):=by
 rw[Qq,List.take_add_one,h];simp[Qq,List.foldl_append]
theorem amt[DecidableEq κ]{k:κ}{F:List (κ×Value)}:∃j,oe k (eQ k v F) 0=some (j,v):=by
 unfold eQ
 split
 ·rename_i i u hf
  have:=Ry (v:=v) hf
  rw[Nat.sub_zero] at this
  exact⟨i,this⟩
 rename_i hf
 exact⟨_,xM hf⟩
theorem HI[DecidableEq κ]{k k':κ}(h:k≠k'):∀ {F:List (κ×Value)} {i:Nat},(oe k (F++[(k',v)]) i).map (·.2)=(oe k F i).map (·.2)
 | [],i=>by simp[oe,h]
 |x::F,i=>by
  simp only[List.cons_append,oe]
  split
  ·rfl
  exact HI h
theorem HH[DecidableEq κ]{k k':κ}(h:k≠k'):∀ {F:List (κ×Value)} {i j:Nat},F[j]?=some (k',u)→(oe k (qu k' v F j) i).map (·.2)=(oe k F i).map (·.2)
 | [],_,_,hj=>by simp at hj
 |x::F,i,0,hj=>by simp at hj;subst hj;simp[qu,oe,h]
 |x::F,i,j+1,hj=>by
  simp at hj
  simp only[qu,oe]
  split
  ·rfl
  exact HH h hj
theorem Zy[DecidableEq κ]{k k':κ}{F:List (κ×Value)}(h:k≠k'):lkM k (eQ k' v F)=lkM k F:=by
 unfold eQ
 split
 ·rename_i i u hf
  have:=(nS hf).2
  rw[Nat.sub_zero] at this
  exact HH h this
 exact HI h
theorem Kz{f:aO→Int}{ls:List aO}:∀ {k:Nat},k≤ls.length→∀y∈ls.take k,II (.int .u8 0) false y (Qq f ls k)= .int .u8 (f y)
 |0,_,y,hy=>by simp at hy
 |k+1,hk,y,hy=>by
  have hx:=List.getElem?_eq_getElem (show k <ls.length by omega)
  rw[Ky hx]
  by_cases e:y=ls[k]
  ·subst e
   obtain⟨j,hj⟩:=amt (k:=ls[k]) (v:=Value.int .u8 (f ls[k])) (F:=Qq f ls k)
   simp only[II,lkM,hj];rfl
  rw[List.take_add_one,hx,List.mem_append] at hy
  have hy2:y∈ls.take k:=hy.elim id fun h=>by simp at h;exact absurd h e
  have:=Kz (f:=f) (show k≤ls.length by omega) y hy2
  simp only[II,Zy e];exact this
def Iz(Z:Cells)(x:bY)(n:Nat)(ls:List aO)(mk:Nat→aO→Int):Prop:=∀j,j <n→∃r es ck F,x.m j= .map (some r)∧(r,Obj.map es ck)∈Z∧oW kvL F es ck∧∀y∈ls,II (.int .u8 0) false y F= .int .u8 (mk j y)
def bY.lj(x:bY)(k:Nat)(v:Value):bY:=match k with
 |0=>{x with m0:=v}
 |1=>{x with m1:=v}
 |_=>{x with m2:=v}
theorem adB{x:bY}{k:Nat}(hk:k <3):dI (uL x) (1+(k:Int).toNat*1) [v]=uL (x.lj k v):=by
 rcases Ue hk with rfl|rfl|rfl<;>rfl
theorem adC{x:bY}{k:Nat}(hk:k <3):Nat.ble ((1+(k:Int).toNat*1)+1) (uL x).length=true:=by
 rcases Ue hk with rfl|rfl|rfl<;>rfl
theorem MK{x:bY}{k:Nat}(hk:k <3):(x.lj k v).m j=if j=k then v else if j <3 then x.m j else (x.lj k v).m j:=by
 rcases Ue hk with rfl|rfl|rfl<;>rcases j with _|_|_|j<;>simp[bY.lj,bY.m]<;>omega
theorem ado{x:bY}{k:Nat}:(x.lj k v).w=x.w:=by
 rcases k with _|_|k<;>rfl
theorem Iz.snoc{Z L:Cells}{x:bY}{r:Nat}{ls:List aO}{mk:Nat→aO→Int}{F:List (aO×Value)}(hn:n <3)(h:Iz Z x n ls mk)(hm:fH r kvL F L)(hF:∀y∈ls,II (.int .u8 0) false y F= .int .u8 (mk n y)):Iz (L++Z) (x.lj n (.map (some r))) (n+1) ls mk:=by
 intro j hj
 obtain⟨es,ck,rfl,hE⟩:=hm
 by_cases e:j=n
 ·subst e
  exact⟨r,es,ck,F,by rw[MK hn,if_pos rfl],by simp,hE,hF⟩
 obtain⟨r',eE,ck',F',h1,h2,h3,h4⟩:=h j (by omega)
 exact⟨r',eE,ck',F',by rw[MK hn,if_neg e,if_pos (by omega)];exact h1,by simp[h2],h3,h4⟩
def qF(K:cm)(s:ByteArray)(x:bH):Bool:= !decide (Gc K.rules x.name s=2)
def FO(hs:List ah)(wi:ah→Int)(wb:ah→Bool)(x:bH):Int:=Hr hs x (wi ⟨x.st,x.no,x.lt⟩) (wb ⟨x.st,x.no,x.lt⟩)
def mkG(K:cm)(hs:List ah)(wi:ah→Int)(wb:ah→Bool)(j:Nat)(y:aO):Int:=match K.ar[j]? with
 |some s=>rk (qb (qF K s) K.ax K.ax.length) (FO hs wi wb) y K.ax K.ax.length
 |none=>0
theorem ar5{K:cm}{hs:List ah}{wi:ah→Int}{wb:ah→Bool}{y:aO}{s:ByteArray}(h:K.ar[j]?=some s):mkG K hs wi wb j y=rk (qb (qF K s) K.ax K.ax.length) (FO hs wi wb) y K.ax K.ax.length:=by simp only[mkG,h]
def aio(K:cm):Prop:=∀x∈K.ax,0≤x.low∧x.low≤x.high∧x.high≤3
theorem adp{x:bY}{k:Nat}{r:Option Nat}(hk:k <3)(h:∀j,∃o,x.m j=Value.map o):∀j,∃o,(x.lj k (.map r)).m j=Value.map o:=by
 intro j
 have h0:=h 0;have h1:=h 1;have h2:=h 2
 rcases Ue hk with rfl|rfl|rfl<;>rcases j with _|_|j<;>simp_all[bY.lj,bY.m]
theorem aAH{pb rw:Nat}{W:fy}{o0 o1 o2:Option Nat}{K:cm}{ls:List aO}{Hs:List ah}{es:Array MapEntry}{F:List (ah×Value)}{wi:ah→Int}{wb:ah→Bool}(hH0:ro Hb=some (.cells ⟨W.cells u⟩ 105 (0,0)))(y3:cD ro W.a3 1 kT K.ar)(p6:cD ro W.a4 2 kB K.rules)(Hx:cD ro W.a7 7 nf K.ax)(hl0:cD ro u 4 eX ls)(hh0:cD ro (.slice W.ha W.H W.ek) 3 bW Hs)(hC:JN K)(hOK:aio K)(A5:ls.length≤5000)(hnh:Hs.length≤1000)(xb:K.ar.length≤3)(hel:K.ax.length≤5)(hr:ro rw=some (.map es ck))(hE:oW lv F es ck)(hlk:∀y:ah,II (zI 0) true y F= .tuple ⟨[zI (wi y),.bool (wb y)]⟩):dX zT 99 [zP Hb,zP pb] ro [(pb,.cells ⟨[.map (some rw),.map o0,.map o1,.map o2]⟩ 134 (0,0))] (fun r Y=>∃(x:bY) (Z:Cells),r= .tuple ⟨[]⟩∧(x.w= .map (some rw)∧∀j,∃o,x.m j= .map o)∧Iz Z x K.ar.length ls (mkG K Hs wi wb)∧Y=(pb,.cells ⟨uL x⟩ 134 (0,0))::Z):=by
 obtain⟨dh,ou,oh,cY,qT,qa,nD,nC⟩:=y3
 obtain⟨dS,uY,uW,dM,qy,uX,rX,rW⟩:=Hx
 obtain⟨cV,nn,nk,cU,hle,pG,jR,lh⟩:=hl0
 have hH:ro Hb=some (.cells ⟨[W.a0,W.a1,W.a2,.slice dh K.ar.length cY,W.a4,zI W.D,zI W.S,.slice dS K.ax.length dM,(.slice W.ha W.H W.ek),.slice cV ls.length cU,W.DR]⟩ 105 (0,0)):=by rw[←qT,←qy,←hle];exact hH0
 refine zC [.b pb (.cells ⟨[(.map (some rw)),(.map o0),(.map o1),(.map o2)]⟩ 134 (0,0))]<|zD 6<|jl (b:=Hb) (off:=0) (m:=11) (vs:=[W.a0,W.a1,W.a2,.slice dh K.ar.length cY,W.a4,zI W.D,zI W.S,.slice dS K.ax.length dM,(.slice W.ha W.H W.ek),.slice cV ls.length cU,W.DR]) 3 ⟨_,_,_,.inl hH,rfl⟩<|zD 4<|BD<|fX [1,0,0] [] (fun(zz:Nat×bY×Cells)=>[(0,zP Hb),(1,zP pb),(21,.slice dh K.ar.length cY),(22,zI (K.ar.length:Int)),(23,zI (zz.1:Int))]) (fun zz=>[.b pb (.cells ⟨[zz.2.1.w,zz.2.1.m0,zz.2.1.m1,zz.2.1.m2]⟩ 134 (0,0)),.l zz.2.2]) (fun zz=>zz.1≤K.ar.length∧(zz.2.1.w= .map (some rw)∧∀j,∃o,zz.2.1.m j= .map o)∧Iz zz.2.2 zz.2.1 zz.1 ls (mkG K Hs wi wb)) (fun zz=>K.ar.length-zz.1) (⟨0,⟨.map (some rw),.map o0,.map o1,.map o2⟩,[]⟩) ⟨Nat.zero_le _,⟨rfl,fun j=>by rcases j with _|_|j<;>exact⟨_,rfl⟩⟩,fun _ h=>absurd h (Nat.not_lt_zero _)⟩ [1,0] ?_
 rintro⟨k,x,Z⟩ hI K1 cz rest
 dsimp only at hI
 refine zD 5<|zJ 24 ((k:Int) <(K.ar.length:Int)) (fun h1=>?_) fun h1=>?_
 ·
  refine zD 7 ?_
  obtain⟨x26,alL⟩:=zG K.ar k
  refine jq cY 1 nD alL<|jl 0 (nC _ _ alL)<|zD 7<|jmk kvL fun uo L30 alY=>zD 2<|xa (b:=pb) (off:=1) (len:=3) (sz:=1) (k:Int) (by omega)<|jsx 1 pb (1+(k:Int).toNat*1) [x.w,x.m0,x.m1,x.m2] [(.map (some uo))] 134 (by intro v hv;rw[List.mem_singleton] at hv;subst hv;rfl) (adC (x:=x) (by omega)) ?_
  refine jmw 0 [.b pb (.cells ⟨[(x.lj k (.map (some uo))).w,(x.lj k (.map (some uo))).m0,(x.lj k (.map (some uo))).m1,(x.lj k (.map (some uo))).m2]⟩ 134 (0,0))] (L:=[(pb,.cells ⟨dI [x.w,x.m0,x.m1,x.m2] (1+(k:Int).toNat*1) [(.map (some uo))]⟩ 134 (0,0))]) (by show [(pb,Obj.cells ⟨dI (uL x) (1+(k:Int).toNat*1) [.map (some uo)]⟩ 134 (0,0))]=_;rw[adB (by omega)];rfl) ?_
  refine zD 12<|jl (b:=Hb) (off:=0) (m:=11) (vs:=[W.a0,W.a1,W.a2,.slice dh K.ar.length cY,W.a4,zI W.D,zI W.S,.slice dS K.ax.length dM,(.slice W.ha W.H W.ek),.slice cV ls.length cU,W.DR]) 7 ⟨_,_,_,.inl hH,rfl⟩<|zD 4<|fX [1,0,0,1,1,0,0,1,1,1,0,1,0,0] [K1] (fun(zz:Nat×Int)=>[(0,zP Hb),(1,zP pb),(4,zI (k:Int)),(5,.string x26),(6,.int .u8 zz.2),(21,.slice dh K.ar.length cY),(22,zI (K.ar.length:Int)),(23,zI (k:Int)),(38,.slice dS K.ax.length dM),(39,zI (K.ax.length:Int)),(40,zI (zz.1:Int))]) (fun zz=>[.b pb (.cells ⟨[(x.lj k (.map (some uo))).w,(x.lj k (.map (some uo))).m0,(x.lj k (.map (some uo))).m1,(x.lj k (.map (some uo))).m2]⟩ 134 (0,0)),.l L30,.l Z]) (fun zz=>zz.1≤K.ax.length∧zz.2=qb (qF K x26) K.ax zz.1) (fun zz=>K.ax.length-zz.1) (⟨0,0⟩) ⟨Nat.zero_le _,rfl⟩ [0,1,2] ?_
  rintro⟨j,n⟩ hJ K2 oy rest
  dsimp only at hJ
  refine zD 5<|zJ 41 ((j:Int) <(K.ax.length:Int)) (fun h2=>?_) fun h2=>?_
  ·
   refine zD 7 ?_
   obtain⟨x43,afa⟩:=zG K.ax j
   refine jq dM 7 rX afa<|jl 0 (rW _ _ afa)<|jn fun b8=>jd 9 [0]<|jl (b:=Hb) (off:=0) (m:=11) (vs:=[W.a0,W.a1,W.a2,.slice dh K.ar.length cY,W.a4,zI W.D,zI W.S,.slice dS K.ax.length dM,(.slice W.ha W.H W.ek),.slice cV ls.length cU,W.DR]) 4 ⟨_,_,_,.inl hH,rfl⟩<|jd 3 [0]<|jp (vs:=[W.a4,.string x43.name,.string x26]) [] [] (fun aV hs hZ=>GV (p6.up hs) hC.rules.2 hC.rules.1 (hC.ax.2 _ (zL afa)) (hC.ar.2 _ (zL alL)))<|zD 11<|js 58 (!decide ((Gc K.rules x43.name x26)=2)) (fun h3=>?_) (fun h3=>?_)
   ·
    replace h3:=of_decide_eq_false (by simpa using h3)
    refine zD 4<|jsh (k:= .u8) (k':= .i64) (a:=1) (b:=(j:Int)) 129 (by omega)<|zD 4<|zW ((j:Int)+1)<|zD 2<|zF oy (⟨j+1,(iOr .u8 n (eC .u8 1 (j:Int)))⟩) (by dsimp only;rw[hJ.2];exact(aed afa (by simp only[qF];first|rw[decide_eq_false (by assumption)];rfl|rw[decide_eq_true (by assumption)];rfl)).symm) [1,2,3]
   replace h3:=of_decide_eq_true (by simpa using h3)
   refine zD 3<|zW ((j:Int)+1)<|zD 2<|zF oy (⟨j+1,n⟩) (by dsimp only;rw[hJ.2];exact(aee afa (by simp only[qF];first|rw[decide_eq_false (by assumption)];rfl|rw[decide_eq_true (by assumption)];rfl)).symm) [1,2,3]
  refine zD 3 ?_
  have hn:n=qb (qF K x26) K.ax K.ax.length:=by rw[hJ.2,show j=K.ax.length by omega]
  refine zD 4<|jl (b:=Hb) (off:=0) (m:=11) (vs:=[W.a0,W.a1,W.a2,.slice dh K.ar.length cY,W.a4,zI W.D,zI W.S,.slice dS K.ax.length dM,(.slice W.ha W.H W.ek),.slice cV ls.length cU,W.DR]) 9 ⟨_,_,_,.inl hH,rfl⟩<|zD 4<|fX [1,0,0,1,1,0,0,1,1,1,1,1,0,0] [K1] (fun(zz:Nat×Cells)=>[(0,zP Hb),(1,zP pb),(4,zI (k:Int)),(6,.int .u8 n),(21,.slice dh K.ar.length cY),(22,zI (K.ar.length:Int)),(23,zI (k:Int)),(67,.slice cV ls.length cU),(68,zI (ls.length:Int)),(69,zI (zz.1:Int))]) (fun zz=>[.l zz.2,.b pb (.cells ⟨[(x.lj k (.map (some uo))).w,(x.lj k (.map (some uo))).m0,(x.lj k (.map (some uo))).m1,(x.lj k (.map (some uo))).m2]⟩ 134 (0,0)),.l Z]) (fun zz=>zz.1≤ls.length∧fH uo kvL (Qq (fun y=>rk n (FO Hs wi wb) y K.ax K.ax.length) ls zz.1) zz.2) (fun zz=>ls.length-zz.1) (⟨0,L30⟩) ⟨Nat.zero_le _,alY⟩ [1,0,2] ?_
  rintro⟨m,LF⟩ hQ K3 hK3 rest
  dsimp only at hQ
  refine zD 5<|zJ 70 ((m:Int) <(ls.length:Int)) (fun h4=>?_) fun h4=>?_
  ·
   refine zD 6 ?_
   obtain⟨LZ,asW⟩:=zG ls m
   refine jq cU 4 jR asW<|jl 0 (lh _ _ asW)<|jn fun wK=>jd 13 [0]<|jl (b:=Hb) (off:=0) (m:=11) (vs:=[W.a0,W.a1,W.a2,.slice dh K.ar.length cY,W.a4,zI W.D,zI W.S,.slice dS K.ax.length dM,(.slice W.ha W.H W.ek),.slice cV ls.length cU,W.DR]) 7 ⟨_,_,_,.inl hH,rfl⟩<|zD 4<|fX [1,0,0,1,1,0,0,1,1,1,1,1,0,0,1,1,0,0,1,1,0,1,0,0] [K1,K3] (fun(zz:Nat×Int)=>[(0,zP Hb),(1,zP pb),(4,zI (k:Int)),(6,.int .u8 n),(12,zP wK),(13,.int .u8 zz.2),(21,.slice dh K.ar.length cY),(22,zI (K.ar.length:Int)),(23,zI (k:Int)),(67,.slice cV ls.length cU),(68,zI (ls.length:Int)),(69,zI (m:Int)),(77,.slice dS K.ax.length dM),(78,zI (K.ax.length:Int)),(79,zI (zz.1:Int))]) (fun zz=>[.b wK (.cells ⟨[zI LZ.a,zI LZ.b,zI LZ.c,zI LZ.d]⟩ 112 (0,0)),.l LF,.b pb (.cells ⟨[(x.lj k (.map (some uo))).w,(x.lj k (.map (some uo))).m0,(x.lj k (.map (some uo))).m1,(x.lj k (.map (some uo))).m2]⟩ 134 (0,0)),.l Z]) (fun zz=>zz.1≤K.ax.length∧zz.2=rk n (FO Hs wi wb) LZ K.ax zz.1) (fun zz=>K.ax.length-zz.1) (⟨0,0⟩) ⟨Nat.zero_le _,rfl⟩ (zN 0 4) ?_
   rintro⟨e,d⟩ hR K4 hK4 rest
   dsimp only at hR
   refine zD 5<|zJ 80 ((e:Int) <(K.ax.length:Int)) (fun h5=>?_) fun h5=>?_
   ·
    refine zD 7 ?_
    obtain⟨u3,UB⟩:=zG K.ax e
    refine jq dM 7 rX UB<|jl 0 (rW _ _ UB)<|jn fun b15=>jd 10 [0,3,0]<|jp (vs:=[zP Hb,.agg ⟨[(x.lj k (.map (some uo))).w,(x.lj k (.map (some uo))).m0,(x.lj k (.map (some uo))).m1,(x.lj k (.map (some uo))).m2]⟩,.agg ⟨[.string u3.name,zI u3.st,zI u3.no,zI u3.lt,.bool u3.late,zI u3.low,zI u3.high]⟩]) [] [] (fun aV hs hZ=>(by rw[show (x.lj k (.map (some uo))).w=Value.map (some rw) from ado.trans hI.2.1.1];exact asn (hs _ _ hH0) (hh0.up hs) hnh (hs _ _ hr) hE (hlk _))) ?_
    refine zD 3 ?_
    have hox:=hOK _ (zL UB)
    refine zD 3<|jsr (k:= .u8) (k':= .i64) (a:=n) (b:=(e:Int)) 129 (by omega)<|zD 3<|js 95 (decide ((ZM .u8 (iL .u8 n (e:Int)) 1)=1)) (fun h6=>?_) (fun h6=>?_)
    ·
     have BN:=h6
     replace BN:=of_decide_eq_true BN
     refine zD 4<|js 99 (!decide (((FO Hs wi wb) u3)=(-1))) (fun h7=>?_) (fun h7=>?_)
     ·
      have h7g:=h7
      replace h7g:=of_decide_eq_false (by simpa using h7g)
      refine jd 4 [0,0]<|zW (u3.high+1)<|aMS (b:=wK) (off:=0) (len:=4) (sz:=1) u3.low (u3.high+1) (by omega)<|zD 1<|jp (vs:=[(.slice (some ⟨wK,0+u3.low.toNat*1,none⟩) ((u3.high+1).toNat-u3.low.toNat) (4-u3.low.toNat)),zI ((FO Hs wi wb) u3)]) [1] [(wK,.cells ⟨[zI LZ.a,zI LZ.b,zI LZ.c,zI LZ.d]⟩ 112 (0,0))] (fun aV hs hZ=>(show eR _ _ _ _ (.bool (inB LZ u3 ((FO Hs wi wb) u3))) from aM1 (akR hZ.head (by omega) (by omega) (by omega)) (by simp only[List.length_drop,List.length_take,fS,List.length_cons,List.length_nil];omega))) ?_
      refine zD 2<|js 108 (inB LZ u3 ((FO Hs wi wb) u3)) (fun h8=>?_) (fun h8=>?_)
      ·
       refine zD 4<|jsh (k:= .u8) (k':= .i64) (a:=1) (b:=(e:Int)) 129 (by omega)<|zD 4<|zW ((e:Int)+1)<|zD 2 ?_
       have hq:(lB n (e:Int)&& !decide ((FO Hs wi wb) u3= -1)&&inB LZ u3 ((FO Hs wi wb) u3))=true:=by rw[show lB n (e:Int)=true from decide_eq_true (by assumption),show decide ((FO Hs wi wb) u3= -1)=false from decide_eq_false (by omega),show inB LZ u3 ((FO Hs wi wb) u3)=true from by assumption];rfl
       exact zF hK4 (⟨e+1,(iOr .u8 d (eC .u8 1 (e:Int)))⟩) (by dsimp only;rw[hR.2];exact(akI UB hq).symm) [1,2,3,4]
      refine zD 3<|zW ((e:Int)+1)<|zD 2 ?_
      have hq:(lB n (e:Int)&& !decide ((FO Hs wi wb) u3= -1)&&inB LZ u3 ((FO Hs wi wb) u3))=false:=by rw[show lB n (e:Int)=true from decide_eq_true (by assumption),show decide ((FO Hs wi wb) u3= -1)=false from decide_eq_false (by omega),show inB LZ u3 ((FO Hs wi wb) u3)=false from by assumption];rfl
      exact zF hK4 (⟨e+1,d⟩) (by dsimp only;rw[hR.2];exact(M1 UB hq).symm) [1,2,3,4]
     have h7g:=h7
     replace h7g:=of_decide_eq_true (by simpa using h7g)
     refine zD 13<|zW ((e:Int)+1)<|zD 2 ?_
     have hq:(lB n (e:Int)&& !decide ((FO Hs wi wb) u3= -1)&&inB LZ u3 ((FO Hs wi wb) u3))=false:=by rw[show lB n (e:Int)=true from decide_eq_true (by assumption),show decide ((FO Hs wi wb) u3= -1)=true from decide_eq_true (by omega)];rfl
     exact zF hK4 (⟨e+1,d⟩) (by dsimp only;rw[hR.2];exact(M1 UB hq).symm) [1,2,3,4]
    have BN:=h6
    replace BN:=of_decide_eq_false BN
    refine zD 17<|zW ((e:Int)+1)<|zD 2 ?_
    have hq:(lB n (e:Int)&& !decide ((FO Hs wi wb) u3= -1)&&inB LZ u3 ((FO Hs wi wb) u3))=false:=by rw[show lB n (e:Int)=false from decide_eq_false (by assumption)];rfl
    exact zF hK4 (⟨e+1,d⟩) (by dsimp only;rw[hR.2];exact(M1 UB hq).symm) [1,2,3,4]
   refine zD 7<|xa (b:=pb) (off:=1) (len:=3) (sz:=1) (k:Int) (by omega)<|uD (b:=pb) (off:=1+(k:Int).toNat*1) (m:=1) (vs:=[(.map (some uo))]) 0 [2] [(pb,.cells ⟨[(x.lj k (.map (some uo))).w,(x.lj k (.map (some uo))).m0,(x.lj k (.map (some uo))).m1,(x.lj k (.map (some uo))).m2]⟩ 134 (0,0))] (fun s _ hZ=>fo (hZ _ (.head _)) (show nth (uL (x.lj k (.map (some uo)))) (1+(k:Int).toNat*1)=some (.map (some uo)) by rw[GJ (by omega),MK (by omega),if_pos rfl]))<|jd 2 [0]<|dV 8 fun Yx YJ hL5=>Ut (kv:=kvL) (F:=(Qq (fun y=>rk n (FO Hs wi wb) y K.ax K.ax.length) ls m)) (r:=uo) (K:=112) 1 (LZ:aO) (.int .u8 d) Xe hQ.2 fun aSC aOw=>IJ hL5<|zD 2<|zW ((m:Int)+1)<|zD 2<|zF hK3 (⟨m+1,aSC⟩) (by dsimp only;rw[Ky asW,show rk n (FO Hs wi wb) LZ K.ax K.ax.length=d by rw[hR.2,show e=K.ax.length by omega]];exact aOw) [0,2,3]
  refine zD 3<|zW ((k:Int)+1)<|zD 2<|zV cz (⟨k+1,(x.lj k (.map (some uo))),LF++Z⟩) ⟨by dsimp only;omega,⟨ado.trans hI.2.1.1,adp (by omega) hI.2.1.2⟩,hI.2.2.snoc (by omega) hQ.2 fun y hy=>by rw[ar5 alL,←hn];exact Kz (f:=(fun y=>rk n (FO Hs wi wb) y K.ax K.ax.length)) (show m≤ls.length by omega) y (by rw[List.take_of_length_le (by omega)];exact hy)⟩ [[1],[0,2]]
 refine zD 2<|zR (.tuple ⟨[]⟩) [] [0,1] ((pb,.cells ⟨[x.w,x.m0,x.m1,x.m2]⟩ 134 (0,0))::Z) ⟨x,Z,rfl,hI.2.1,by rw[show K.ar.length=k by omega];exact hI.2.2,rfl⟩
def cm.inn(K:cm):fy:=⟨zI 0,zI 0,zI 0,zI 0,zI 0,zI 0,zI 0,K.days,K.stay,none,K.hs.length,0⟩
def aeA(K:cm):List aO:=Aw K.inn
def nN(K:cm)(i j:Nat)(y:aO):Int:=match K.W[i]? with
 |some w=>mkG K K.hs (YE K.hs (K.g w)) (fun x=>decide (OW K.hs (K.g w) x≥0)) j y
 |none=>0
theorem ar4{K:cm}{i:Nat}{w:List Int}(h:K.W[i]?=some w):nN K i=mkG K K.hs (YE K.hs (K.g w)) fun x=>decide (OW K.hs (K.g w) x≥0):=by funext j y;simp only[nN,h]
def iy(K:cm)(need:Int):List aH:=dY K.days (aeA K) (nN K) K.ar.length K.W.length need
structure kV(K:cm):Prop where
 c:JN K
 e:mG K=0
 h3:K.hs.length≤3
 inj:∀w∈K.W,ail K.hs (K.g w)
 n:(iy K (allM K.ax.length)).length≤1000000
theorem kV.days{K:cm}(h:kV K):1≤K.days∧K.days≤4:=(xy h.e).2.2.2.1.1
theorem kV.ax{K:cm}(h:kV K):K.ax.length≤5:=(xy h.e).2.2.2.2.1
theorem kV.SE{K:cm}(h:kV K):1≤K.ar.length∧K.ar.length≤3:=ML (xy h.e).1
theorem RP{f:bH→Int}:∀ {l:List bH},AU f l=0→∀x∈l,f x=0
 | [],_,_,h=>by cases h
 |y::l,h,x,hx=>by
  by_cases h0:f y=0
  ·simp only[AU,decide_eq_true h0] at h
   rcases List.mem_cons.1 hx with rfl|hx
   ·exact h0
   exact RP h x hx
  simp only[AU,decide_eq_false h0] at h;exact absurd h h0
theorem RS{x:bH}(h:dN D x=0):0≤x.low∧x.low≤x.high∧x.high≤D-1:=by
 unfold dN at h
 by_cases h1:(0≤x.low∧x.low≤D-1)∧0≤x.high∧x.high≤D-1
 ·have e:(!gY x.low 0 (D-1)|| !gY x.high 0 (D-1))=false:=by simp[gY,h1.1.1,h1.1.2,h1.2.1,h1.2.2]
  rw[e] at h
  by_cases h2:x.low>x.high
  ·rw[decide_eq_true h2] at h;simp at h
  omega
 have e:(!gY x.low 0 (D-1)|| !gY x.high 0 (D-1))=true:=by
  cases he:(!gY x.low 0 (D-1)|| !gY x.high 0 (D-1)) with
  |true=>rfl
  |false=>simp[gY] at he;exact absurd ⟨⟨he.1.1,he.1.2⟩,he.2.1,he.2.2⟩ h1
 rw[e] at h;simp at h
theorem amC{ns:Nat}{hs:List ah}{x:bH}(h:Go.L.dZ ns hs D x=0):0≤x.low∧x.low≤x.high∧x.high≤D-1:=by
 unfold Go.L.dZ at h
 cases hl:x.late with
 |true=>
  rw[hl] at h
  simp only[cond_true] at h
  cases h1: !gY x.st 0 ((ns:Int)-1) with
  |true=>rw[h1] at h;simp at h
  |false=>
   rw[h1] at h
   cases h2:(!gY x.no 1 40|| !gY x.lt 0 4) with
   |true=>rw[h2] at h;simp at h
   |false=>rw[h2] at h;exact RS h
 |false=>
  rw[hl] at h
  simp only[cond_false] at h
  cases h1: !decide (c9 (pJ x.st x.no x.lt) hs 0≥0) with
  |true=>rw[h1] at h;simp at h
  |false=>rw[h1] at h;exact RS h
theorem kV.eok{K:cm}(h:kV K):aio K:=fun x hx=>by
 have h1:=amC (RP (xy h.e).2.2.2.2.2 x hx)
 have:=h.days
 omega
structure qK(ro:Nat→Option Obj)(Hb:Nat)(K:cm)(W:fy)(u:Value)(ls:List aO)(ps:List bY):Prop where
 r:wm ro Hb W u K.ar.length K.ax.length ls ps (nN K)
 d:W.D=K.days
 l:du ro [W.a0,W.a1,W.a2,W.a3,W.a4,zI W.D,zI W.S,W.a7] K
 hh:cD ro (.slice W.ha W.H W.ek) 3 bW K.hs
 hl:W.H=K.hs.length
 p:ls.Perm (aeA K)
 n:ps.length=K.W.length
theorem qK.up{aR:Nat→Option Obj}{K:cm}{W:fy}{ls:List aO}{ps:List bY}(h:qK ro Hb K W u ls ps)(hs:Sub ro aR):qK aR Hb K W u ls ps:=
 ⟨h.r.up hs,h.d,h.l.up hs,h.hh.up hs,h.hl,h.p,h.n⟩
theorem qK.Ab{K:cm}{W:fy}{ls:List aO}{ps:List bY}(h:qK ro Hb K W u ls ps)(need:Int):(dY W.D ls (nN K) K.ar.length ps.length need).Perm (iy K need):=by
 rw[h.d,h.n];exact YH h.p
theorem Uk{W:fy}(hD:1≤W.D∧W.D≤4)(hH:W.H≤3):(Aw W).length≤256:=by
 have e2:=sM (f:=wkL W) (l:=iN 0 (W.H+1)) (B:=64) fun h _=>Mc hD hH h
 rw[AF] at e2
 unfold Aw;omega
def PsP(Z:Cells)(ps:List bY)(ls:List aO)(K:cm):Prop:=∀i x,ps[i]?=some x→Iz Z x K.ar.length ls (nN K i)
theorem PsP.snoc{Z Z2:Cells}{ps:List bY}{ls:List aO}{K:cm}{x:bY}(h:PsP Z ps ls K)(hx:Iz Z2 x K.ar.length ls (nN K ps.length)):PsP (Z2++Z) (ps++[x]) ls K:=by
 intro i y hy j hj
 rw[List.getElem?_append] at hy
 split at hy
 ·obtain⟨r,es,ck,F,h1,h2,h3⟩:=h i y hy j hj
  exact⟨r,es,ck,F,h1,List.mem_append_right _ h2,h3⟩
 rename_i hi
 obtain⟨IS,e⟩:=yw hy
 have hii:i=ps.length:=by omega
 subst hii;subst e
 obtain⟨r,es,ck,F,h1,h2,h3⟩:=hx j hj
 exact⟨r,es,ck,F,h1,List.mem_append_left _ h2,h3⟩
theorem PW{x:bY}{o:Option Nat}(hw:x.w= .map o)(hm:∀j,∃o,x.m j=Value.map o):∀p∈[(⟨x.w,x.m0,x.m1,x.m2⟩:bY)],∀c∈uL p,single c=true:=by
 intro p hp
 rw[List.mem_singleton] at hp
 subst hp
 obtain⟨a,ha⟩:=hm 0
 obtain⟨b,hb⟩:=hm 1
 obtain⟨c,hc⟩:=hm 2
 simp only[bY.m] at ha hb hc
 simp only[uL,hw,ha,hb,hc]
 exact aP rfl
theorem tC{K:cm}(hK:du ro l K)(hV:kV K):aa9 zT 68 [.agg ⟨l⟩] ro [] (fun r aV Y=>∃Hb W u ls ps,r= .tuple ⟨[zP Hb,zI 0]⟩∧qK aV Hb K W u ls ps∧Y=[]):=by
 have XK:=hK
 obtain⟨vS,vT,vP,vR,vE,fa,fc,rfl,hS,hT,hp,hr,he⟩:=hK
 have y3:=hp
 have Hx:=he
 have p6:=hr
 obtain⟨dh,ou,oh,cY,rfl,qa,nD,nC⟩:=hp
 obtain⟨dS,uY,uW,dM,rfl,uX,rX,rW⟩:=he
 have gX:(aG K.str).Nodup:=Hh hV.c.qv _
 have AK:=qX (S:=K.str) hV.c.ways
 have hWl:K.W.length≤3:=by simp only[cm.W,List.length_map];exact AK
 refine aeZ (hm:=aE) [] [] bJ fun fr=>zD 2<|jn fun b1=>jd 6 [0]<|jc (vs:=[.agg ⟨[vS,vT,.slice fa 0 fc,.slice dh K.ar.length cY,vR,zI K.days,zI K.stay,.slice dS K.ax.length dM]⟩]) [] (aop XK hV.c hV.e) ?_
 rintro _ _ ⟨Hb,ha,hc,LH,wa,wn,wc,Lw,rfl,rfl,hoH,hwn,hWW⟩
 refine jg 0 [.b Hb (.cells ⟨[vS,vT,.slice fa 0 fc,.slice dh K.ar.length cY,vR,zI K.days,zI K.stay,.slice dS K.ax.length dM,(.slice ha (aG K.str).length hc),zS,zS]⟩ 105 (0,0)),.l LH,.l Lw]<|zD 19<|BE (vs:=[zP Hb]) [0] (fun _ _ h=>h) (aeX (Hb:=Hb) (W:=⟨vS,vT,.slice fa 0 fc,.slice dh K.ar.length cY,vR,.slice dS K.ax.length dM,zS,K.days,K.stay,ha,(aG K.str).length,hc⟩) hV.days hV.h3) ?_
 rintro _ _ ⟨rfl,ls,u,X,hls,hoL,rfl⟩
 obtain⟨ua,uc,Xq⟩:=hoL.form
 subst Xq
 have A5:ls.length≤256:=by rw[hls.length_eq];exact Uk hV.days hV.h3
 refine jg 0 [.b Hb (.cells ⟨[vS,vT,.slice fa 0 fc,.slice dh K.ar.length cY,vR,zI K.days,zI K.stay,.slice dS K.ax.length dM,(.slice ha (aG K.str).length hc),(.slice ua ls.length uc),zS]⟩ 105 (0,0)),.l X]<|jf [2,1,3] (LH++(X++Lw)) (fun yW cR fe=>?_)
 have hHs:=hoH.n9 (Knows.left fe)
 have hLs:=hoL.n9 (Knows.left (Knows.right fe))
 have hWs:=hWW _ (Knows.right (Knows.right fe))
 obtain⟨wsW,qS,Rj⟩:=hWs
 obtain⟨qWa,qWb,qWo,qWc,hWe,qWk,qWh,qWl⟩:=qS
 simp only[Value.slice.injEq] at hWe
 obtain⟨rfl,rfl,rfl⟩:=hWe
 have hwl:=Rj.len
 refine zD 9<|BD<|BD<|fX [1,1,1,1,0,1,0,0] [] (fun(zz:Nat×Value×Cells×(List bY)×Cells)=>[(2,.pointer none),(3,zI 0),(4,zP Hb),(21,.slice wa wsW.length wc),(22,zI (wsW.length:Int)),(23,zI (zz.1:Int))]) (fun zz=>[.b Hb (.cells ⟨[vS,vT,.slice fa 0 fc,.slice dh K.ar.length cY,vR,zI K.days,zI K.stay,.slice dS K.ax.length dM,(.slice ha (aG K.str).length hc),(.slice ua ls.length uc),zz.2.1]⟩ 105 (0,0)),.l zz.2.2.1,.l zz.2.2.2.2,.l fr]) (fun zz=>zz.1≤wsW.length∧zz.2.2.2.1.length=zz.1∧aK zz.2.1 4 134 uL zz.2.2.2.1 zz.2.2.1∧PsP zz.2.2.2.2 zz.2.2.2.1 ls K) (fun zz=>wsW.length-zz.1) (⟨0,zS,[],[],[]⟩) ⟨Nat.zero_le _,rfl,aK.nil _ _ _,fun _ _ h=>by simp at h⟩ [2,1,0,4] ?_
 rintro⟨i,vO,LP,ps,Z⟩ hI K1 cz rest
 dsimp only at hI
 refine zD 5<|zJ 24 ((i:Int) <(wsW.length:Int)) (fun h4=>?_) fun h4=>?_
 ·
  refine zD 6 ?_
  obtain⟨x25,Jj⟩:=zG wsW i
  refine jq wc 1 qWh Jj ?_
  obtain⟨l26,aCN,h26⟩:=Rj.get Jj
  obtain atI:=zL aCN
  obtain aCM:=id h26
  obtain⟨aLk,aYb,aX7,aLj,rfl,aX9,aYa,aX8⟩:=h26
  refine jl 0 (qWl _ _ Jj)<|zD 6<|Uu (vs:=[zP Hb,.slice aLk l26.length aLj]) [] [0] [(Hb,.cells ⟨[vS,vT,.slice fa 0 fc,.slice dh K.ar.length cY,vR,zI K.days,zI K.stay,.slice dS K.ax.length dM,(.slice ha (aG K.str).length hc),(.slice ua ls.length uc),vO]⟩ 105 (0,0))] (fun aV hs hZ=>aMe (W:=⟨vS,vT,.slice fa 0 fc,.slice dh K.ar.length cY,vR,.slice dS K.ax.length dM,vO,K.days,K.stay,ha,(aG K.str).length,hc⟩) (u:= .slice ua ls.length uc) (w:=l26) hZ.head (hS.up (cR.trans hs)) (hT.up (cR.trans hs)) (hHs.up ((Sub.refl _).trans hs)) hV.c (hV.inj _ atI) (aCM.up ((Sub.refl _).trans hs)) atI) ?_
  rintro _ _ ⟨rm,F,rfl,aOu,aNg⟩
  obtain⟨esW,ckW,rfl,hEW⟩:=aOu
  refine jg 0 [.b rm (.map esW ckW)]<|zD 1<|jn fun b9=>jd 1 [0]<|jf [1] [(rm,.map esW ckW)] (fun ro7 rS FP=>?_)
  have IL:=FP _ (.head _)
  refine zD 4<|Uu (vs:=[zP Hb,zP b9]) [0] [0] [(Hb,.cells ⟨[vS,vT,.slice fa 0 fc,.slice dh K.ar.length cY,vR,zI K.days,zI K.stay,.slice dS K.ax.length dM,(.slice ha (aG K.str).length hc),(.slice ua ls.length uc),vO]⟩ 105 (0,0))] (fun aV hs hZ=>aAH (W:=⟨vS,vT,.slice fa 0 fc,.slice dh K.ar.length cY,vR,.slice dS K.ax.length dM,vO,K.days,K.stay,ha,(aG K.str).length,hc⟩) (u:= .slice ua ls.length uc) (pb:=b9) (rw:=rm) (o0:=none) (o1:=none) (o2:=none) (wi:=YE K.hs (K.g l26)) (wb:=fun x=>decide (OW K.hs (K.g l26) x≥0)) hZ.head (y3.up ((cR.trans rS).trans hs)) (hr.up ((cR.trans rS).trans hs)) (Hx.up ((cR.trans rS).trans hs)) (hLs.up (rS.trans hs)) (hHs.up (rS.trans hs)) hV.c hV.eok (by omega) (by have:=hV.h3;simp only[cm.hs] at this;omega) hV.SE.2 hV.ax (hs _ _ IL) hEW (abI gX (hV.inj _ atI) aNg)) ?_
  rintro _ _ ⟨E0,Z32,rfl,⟨hxw,hxm⟩,hMP,rfl⟩
  refine jg 0 [.b b9 (.cells ⟨[E0.w,E0.m0,E0.m1,E0.m2]⟩ 134 (0,0)),.l Z32]<|jd 8 [2,0]<|dV 6 fun LW Mn Nv=>jn fun b39=>iv Nv (zN 1 6)<|dV 7 fun Bc Bm AN=>wD (sz:=4) (ps:=ps) (qs:=[(⟨E0.w,E0.m0,E0.m1,E0.m2⟩:bY)]) (enc:=uL) (w:= .slice (some ⟨b39,0,none⟩) 1 1) [4] [0] [(b39,.cells ⟨([(⟨E0.w,E0.m0,E0.m1,E0.m2⟩:bY)].map uL).flatten⟩ 134 (0,0))] (hI.2.2.1) (fun s _ hZ=>gG [(⟨E0.w,E0.m0,E0.m1,E0.m2⟩:bY)] (hZ _ (.head _)) (by intro p hp;rfl)) (PW hxw hxm) (by simp only[List.length_cons,List.length_nil];omega) (fun v40 L40 xH=>?_)
  obtain⟨abU,abN,af6⟩:=xH.form
  subst af6
  refine wC AN []<|zD 2<|dV 10 fun Cq Cy AM=>jd 1 [4]<|wC AM []<|zD 2<|zW ((i:Int)+1)<|zD 2<|Us cz (⟨i+1,(.slice abU ((ps++[(⟨E0.w,E0.m0,E0.m1,E0.m2⟩:bY)])).length abN),L40,(ps++[(⟨E0.w,E0.m0,E0.m1,E0.m2⟩:bY)]),Z32++Z⟩) ⟨by dsimp only;omega,by dsimp only;simp only[zM];omega,xH,hI.2.2.2.snoc (by rw[hI.2.1,ar4 aCN];exact hMP)⟩ (by dsimp only;omega) [[4],[0],[3,5],[6]] rS
 refine zD 7<|jf [0,1,2] ((Hb,.cells ⟨[vS,vT,.slice fa 0 fc,.slice dh K.ar.length cY,vR,zI K.days,zI K.stay,.slice dS K.ax.length dM,(.slice ha (aG K.str).length hc),(.slice ua ls.length uc),vO]⟩ 105 (0,0))::(LP++Z)) (fun aKg ZW atZ=>?_)
 have kS:qK aKg Hb K ⟨vS,vT,.slice fa 0 fc,.slice dh K.ar.length cY,vR,.slice dS K.ax.length dM,vO,K.days,K.stay,ha,(aG K.str).length,hc⟩ (.slice ua ls.length uc) ls ps:=⟨⟨atZ _ (.head _),hV.days,hV.SE.2,⟨_,rfl,y3.up (cR.trans ZW)⟩,⟨_,rfl,Hx.up (cR.trans ZW)⟩,hV.ax,hLs.up ZW,by omega,hI.2.2.1.n9 (Knows.left (Knows.tail atZ)),by omega,fun i x hx j hj=>by obtain⟨r,es,ck,F,h1,h2,h3,h4⟩:=hI.2.2.2 i x hx j hj;exact⟨r,es,ck,F,h1,(Knows.right (Knows.tail atZ)) _ h2,h3,h4⟩⟩,rfl,XK.up (cR.trans ZW),hHs.up ZW,rfl,hls,by omega⟩
 refine zD 2<|aBk qC.a.a (.tuple ⟨[zP Hb,zI 0]⟩) [0] [] (cR.trans ZW) ⟨Hb,_,_,ls,ps,rfl,kS,rfl⟩
abbrev ePr(x:Int×Int):List Value:=[zI x.1,zI x.2]
def FY(xs:List (Int×Int)):Prop:=xs.length≤10∧∀x∈xs,0≤x.1∧x.1 <x.2∧x.2≤1000000
theorem azs{a:Int}(h:0≤a∧a <b∧b≤1000000):FY [(a,b)]:=⟨by simp,by simpa using h⟩
theorem ake{a c d:Int}(h:0≤a∧a <b∧b≤1000000)(h2:0≤c∧c <d∧d≤1000000):FY [(a,b),(c,d)]:=⟨by simp,fun x hx=>by
 rcases List.mem_cons.1 hx with rfl|hx
 ·exact h
 rw[List.mem_singleton] at hx;subst hx;exact h2⟩
theorem azr{a c d f:Int}(h:0≤a∧a <b∧b≤1000000)(h2:0≤c∧c <d∧d≤1000000)(h3:0≤e∧e <f∧f≤1000000):FY [(a,b),(c,d),(e,f)]:=⟨by simp,fun x hx=>by
 rcases List.mem_cons.1 hx with rfl|hx
 ·exact h
 exact(ake h2 h3).2 x hx⟩
theorem asg{K:cm}{W:fy}{ls:List aO}{ps:List bY}(hI:qK ro Hb K W u ls ps)(g1:ro b1=some (.cells ⟨[zI (p:Int)]⟩ 3 (0,0)))(g2:ro b2=some (.cells ⟨[zI (d:Int)]⟩ 3 (0,0))):dX zT 46 [zP Hb,zP b1,zP b2] ro [] (fun r Y=>aK r 2 106 ePr [((p:Int),(K.ar.length:Int)),((d:Int),K.days)] Y):=by
 have cq:=hI.r
 obtain⟨xs,Ha,qR⟩:=cq.pe
 obtain⟨me,PJ,PH,lQ,sD,PI,OC,OB⟩:=qR
 obtain⟨es,pP,jb⟩:=cq.e
 obtain⟨dS,uY,uW,dM,qy,uX,rX,rW⟩:=jb
 obtain⟨cV,nn,nk,cU,hle,pG,jR,lh⟩:=cq.l
 obtain⟨dh,ou,oh,cY,qT,qa,nD,nC⟩:=cq.p
 obtain⟨ov,TN,TJ,od,Ju,TK,SD,SC⟩:=hI.hh
 have hH:ro Hb=some (.cells ⟨[W.a0,W.a1,W.a2,.slice me xs.length lQ,W.a4,zI W.D,zI W.S,.slice dS es.length dM,.slice ov K.hs.length od,.slice cV ls.length cU,.slice dh ps.length cY]⟩ 105 (0,0)):=by rw[←sD,←qy,←hle,←qT,←Ju];exact cq.h
 have Nn:=cq.n3
 have ON:=cq.e5
 have A5:=cq.ll
 have xb:=cq.pl
 have Rm:=cq.d
 have Fi:=hI.d
 refine zE<|zD 6<|jl (b:=b1) (off:=0) (m:=1) (vs:=[zI (p:Int)]) 0 ⟨_,_,_,.inl g1,rfl⟩<|zD 4<|jl (b:=Hb) (off:=0) (m:=11) (vs:=[W.a0,W.a1,W.a2,.slice me xs.length lQ,W.a4,zI W.D,zI W.S,.slice dS es.length dM,.slice ov K.hs.length od,.slice cV ls.length cU,.slice dh ps.length cY]) 3 ⟨_,_,_,.inl hH,rfl⟩<|zD 2<|jl (b:=b2) (off:=0) (m:=1) (vs:=[zI (d:Int)]) 0 ⟨_,_,_,.inl g2,rfl⟩<|zD 4<|jl (b:=Hb) (off:=0) (m:=11) (vs:=[W.a0,W.a1,W.a2,.slice me xs.length lQ,W.a4,zI W.D,zI W.S,.slice dS es.length dM,.slice ov K.hs.length od,.slice cV ls.length cU,.slice dh ps.length cY]) 5 ⟨_,_,_,.inl hH,rfl⟩<|zD 1<|dV 15 fun tc tj sI=>jn fun b20=>iv sI []<|zD 3<|zR (.slice (some ⟨b20,0,none⟩) 2 2) [] [0] [(b20,.cells ⟨[zI (p:Int),zI (xs.length:Int),zI (d:Int),zI W.D]⟩ 106 (0,0))] (by simp only[←Ha,←pP,←Fi];exact mE (b:=b20) (T:=106) [((p:Int),(xs.length:Int)),((d:Int),W.D)] rfl (fun _ _=>rfl))
theorem aAA{K:cm}{W:fy}{ls:List aO}{ps:List bY}(hI:qK ro Hb K W u ls ps)(g1:ro b1=some (.cells ⟨[zI (p:Int)]⟩ 3 (0,0)))(g2:ro b2=some (.cells ⟨[zI (d:Int)]⟩ 3 (0,0))):dX zT 50 [zP Hb,zP b1,zP b2] ro [] (fun r Y=>aK r 2 106 ePr [((p:Int),(K.hs.length:Int)),((d:Int),K.days)] Y):=by
 have cq:=hI.r
 obtain⟨xs,Ha,qR⟩:=cq.pe
 obtain⟨me,PJ,PH,lQ,sD,PI,OC,OB⟩:=qR
 obtain⟨es,pP,jb⟩:=cq.e
 obtain⟨dS,uY,uW,dM,qy,uX,rX,rW⟩:=jb
 obtain⟨cV,nn,nk,cU,hle,pG,jR,lh⟩:=cq.l
 obtain⟨dh,ou,oh,cY,qT,qa,nD,nC⟩:=cq.p
 obtain⟨ov,TN,TJ,od,Ju,TK,SD,SC⟩:=hI.hh
 have hH:ro Hb=some (.cells ⟨[W.a0,W.a1,W.a2,.slice me xs.length lQ,W.a4,zI W.D,zI W.S,.slice dS es.length dM,.slice ov K.hs.length od,.slice cV ls.length cU,.slice dh ps.length cY]⟩ 105 (0,0)):=by rw[←sD,←qy,←hle,←qT,←Ju];exact cq.h
 have Nn:=cq.n3
 have ON:=cq.e5
 have A5:=cq.ll
 have xb:=cq.pl
 have Rm:=cq.d
 have Fi:=hI.d
 refine zE<|zD 6<|jl (b:=b1) (off:=0) (m:=1) (vs:=[zI (p:Int)]) 0 ⟨_,_,_,.inl g1,rfl⟩<|zD 3<|jl (b:=Hb) (off:=0) (m:=11) (vs:=[W.a0,W.a1,W.a2,.slice me xs.length lQ,W.a4,zI W.D,zI W.S,.slice dS es.length dM,.slice ov K.hs.length od,.slice cV ls.length cU,.slice dh ps.length cY]) 8 ⟨_,_,_,.inl hH,rfl⟩<|zD 2<|jl (b:=b2) (off:=0) (m:=1) (vs:=[zI (d:Int)]) 0 ⟨_,_,_,.inl g2,rfl⟩<|zD 4<|jl (b:=Hb) (off:=0) (m:=11) (vs:=[W.a0,W.a1,W.a2,.slice me xs.length lQ,W.a4,zI W.D,zI W.S,.slice dS es.length dM,.slice ov K.hs.length od,.slice cV ls.length cU,.slice dh ps.length cY]) 5 ⟨_,_,_,.inl hH,rfl⟩<|zD 1<|dV 14 fun tc tj sI=>jn fun DN=>iv sI []<|zD 3<|zR (.slice (some ⟨DN,0,none⟩) 2 2) [] [0] [(DN,.cells ⟨[zI (p:Int),zI (K.hs.length:Int),zI (d:Int),zI W.D]⟩ 106 (0,0))] (by simp only[←Ha,←pP,←Fi];exact mE (b:=DN) (T:=106) [((p:Int),(K.hs.length:Int)),((d:Int),W.D)] rfl (fun _ _=>rfl))
theorem aAE{K:cm}{W:fy}{ls:List aO}{ps:List bY}(hI:qK ro Hb K W u ls ps)(g1:ro b1=some (.cells ⟨[zI (p:Int)]⟩ 3 (0,0)))(g2:ro b2=some (.cells ⟨[zI h]⟩ 3 (0,0)))(g3:ro b3=some (.cells ⟨[zI (d:Int)]⟩ 3 (0,0)))(hh: -1≤h∧h≤1000)(hhl:K.hs.length≤1000):dX zT 53 [zP Hb,zP b1,zP b2,zP b3] ro [] (fun r Y=>aK r 2 106 ePr [((p:Int),(K.ar.length:Int)),((h+1),((K.hs.length:Int)+1)),((d:Int),K.days)] Y):=by
 have cq:=hI.r
 obtain⟨xs,Ha,qR⟩:=cq.pe
 obtain⟨me,PJ,PH,lQ,sD,PI,OC,OB⟩:=qR
 obtain⟨es,pP,jb⟩:=cq.e
 obtain⟨dS,uY,uW,dM,qy,uX,rX,rW⟩:=jb
 obtain⟨cV,nn,nk,cU,hle,pG,jR,lh⟩:=cq.l
 obtain⟨dh,ou,oh,cY,qT,qa,nD,nC⟩:=cq.p
 obtain⟨ov,TN,TJ,od,Ju,TK,SD,SC⟩:=hI.hh
 have hH:ro Hb=some (.cells ⟨[W.a0,W.a1,W.a2,.slice me xs.length lQ,W.a4,zI W.D,zI W.S,.slice dS es.length dM,.slice ov K.hs.length od,.slice cV ls.length cU,.slice dh ps.length cY]⟩ 105 (0,0)):=by rw[←sD,←qy,←hle,←qT,←Ju];exact cq.h
 have Nn:=cq.n3
 have ON:=cq.e5
 have A5:=cq.ll
 have xb:=cq.pl
 have Rm:=cq.d
 have Fi:=hI.d
 refine zE<|zD 6<|jl (b:=b1) (off:=0) (m:=1) (vs:=[zI (p:Int)]) 0 ⟨_,_,_,.inl g1,rfl⟩<|zD 4<|jl (b:=Hb) (off:=0) (m:=11) (vs:=[W.a0,W.a1,W.a2,.slice me xs.length lQ,W.a4,zI W.D,zI W.S,.slice dS es.length dM,.slice ov K.hs.length od,.slice cV ls.length cU,.slice dh ps.length cY]) 3 ⟨_,_,_,.inl hH,rfl⟩<|zD 2<|jl (b:=b2) (off:=0) (m:=1) (vs:=[zI h]) 0 ⟨_,_,_,.inl g2,rfl⟩<|zW (h+1)<|zD 3<|jl (b:=Hb) (off:=0) (m:=11) (vs:=[W.a0,W.a1,W.a2,.slice me xs.length lQ,W.a4,zI W.D,zI W.S,.slice dS es.length dM,.slice ov K.hs.length od,.slice cV ls.length cU,.slice dh ps.length cY]) 8 ⟨_,_,_,.inl hH,rfl⟩<|zD 1<|zW ((K.hs.length:Int)+1)<|zD 1<|jl (b:=b3) (off:=0) (m:=1) (vs:=[zI (d:Int)]) 0 ⟨_,_,_,.inl g3,rfl⟩<|zD 4<|jl (b:=Hb) (off:=0) (m:=11) (vs:=[W.a0,W.a1,W.a2,.slice me xs.length lQ,W.a4,zI W.D,zI W.S,.slice dS es.length dM,.slice ov K.hs.length od,.slice cV ls.length cU,.slice dh ps.length cY]) 5 ⟨_,_,_,.inl hH,rfl⟩<|zD 1<|dV 24 fun tc tj sI=>jn fun b30=>iv sI []<|zD 3<|zR (.slice (some ⟨b30,0,none⟩) 3 3) [] [0] [(b30,.cells ⟨[zI (p:Int),zI (xs.length:Int),zI (h+1),zI ((K.hs.length:Int)+1),zI (d:Int),zI W.D]⟩ 106 (0,0))] (by simp only[←Ha,←pP,←Fi];exact mE (b:=b30) (T:=106) [((p:Int),(xs.length:Int)),((h+1),((K.hs.length:Int)+1)),((d:Int),W.D)] rfl (fun _ _=>rfl))
theorem aAG{K:cm}{W:fy}{ls:List aO}{ps:List bY}(hI:qK ro Hb K W u ls ps)(g1:ro b1=some (.cells ⟨[zI (p:Int)]⟩ 3 (0,0))):dX zT 57 [zP Hb,zP b1] ro [] (fun r Y=>aK r 2 106 ePr [((p:Int),(K.ar.length:Int))] Y):=by
 have cq:=hI.r
 obtain⟨xs,Ha,qR⟩:=cq.pe
 obtain⟨me,PJ,PH,lQ,sD,PI,OC,OB⟩:=qR
 obtain⟨es,pP,jb⟩:=cq.e
 obtain⟨dS,uY,uW,dM,qy,uX,rX,rW⟩:=jb
 obtain⟨cV,nn,nk,cU,hle,pG,jR,lh⟩:=cq.l
 obtain⟨dh,ou,oh,cY,qT,qa,nD,nC⟩:=cq.p
 obtain⟨ov,TN,TJ,od,Ju,TK,SD,SC⟩:=hI.hh
 have hH:ro Hb=some (.cells ⟨[W.a0,W.a1,W.a2,.slice me xs.length lQ,W.a4,zI W.D,zI W.S,.slice dS es.length dM,.slice ov K.hs.length od,.slice cV ls.length cU,.slice dh ps.length cY]⟩ 105 (0,0)):=by rw[←sD,←qy,←hle,←qT,←Ju];exact cq.h
 have Nn:=cq.n3
 have ON:=cq.e5
 have A5:=cq.ll
 have xb:=cq.pl
 have Rm:=cq.d
 have Fi:=hI.d
 refine zE<|zD 6<|jl (b:=b1) (off:=0) (m:=1) (vs:=[zI (p:Int)]) 0 ⟨_,_,_,.inl g1,rfl⟩<|zD 4<|jl (b:=Hb) (off:=0) (m:=11) (vs:=[W.a0,W.a1,W.a2,.slice me xs.length lQ,W.a4,zI W.D,zI W.S,.slice dS es.length dM,.slice ov K.hs.length od,.slice cV ls.length cU,.slice dh ps.length cY]) 3 ⟨_,_,_,.inl hH,rfl⟩<|zD 2<|dV 8 fun tc tj sI=>jn fun wK=>iv sI []<|zD 3<|zR (.slice (some ⟨wK,0,none⟩) 1 1) [] [0] [(wK,.cells ⟨[zI (p:Int),zI (xs.length:Int)]⟩ 106 (0,0))] (by simp only[←Ha,←pP,←Fi];exact mE (b:=wK) (T:=106) [((p:Int),(xs.length:Int))] rfl (fun _ _=>rfl))
theorem aAF{K:cm}{W:fy}{ls:List aO}{ps:List bY}(hI:qK ro Hb K W u ls ps)(g1:ro b1=some (.cells ⟨[zI (p:Int)]⟩ 3 (0,0)))(g2:ro b2=some (.cells ⟨[zI (d:Int)]⟩ 3 (0,0))):dX zT 61 [zP Hb,zP b1,zP b2] ro [] (fun r Y=>aK r 2 106 ePr [((p:Int),(K.ar.length:Int)),((d:Int),(K.hs.length:Int))] Y):=by
 have cq:=hI.r
 obtain⟨xs,Ha,qR⟩:=cq.pe
 obtain⟨me,PJ,PH,lQ,sD,PI,OC,OB⟩:=qR
 obtain⟨es,pP,jb⟩:=cq.e
 obtain⟨dS,uY,uW,dM,qy,uX,rX,rW⟩:=jb
 obtain⟨cV,nn,nk,cU,hle,pG,jR,lh⟩:=cq.l
 obtain⟨dh,ou,oh,cY,qT,qa,nD,nC⟩:=cq.p
 obtain⟨ov,TN,TJ,od,Ju,TK,SD,SC⟩:=hI.hh
 have hH:ro Hb=some (.cells ⟨[W.a0,W.a1,W.a2,.slice me xs.length lQ,W.a4,zI W.D,zI W.S,.slice dS es.length dM,.slice ov K.hs.length od,.slice cV ls.length cU,.slice dh ps.length cY]⟩ 105 (0,0)):=by rw[←sD,←qy,←hle,←qT,←Ju];exact cq.h
 have Nn:=cq.n3
 have ON:=cq.e5
 have A5:=cq.ll
 have xb:=cq.pl
 have Rm:=cq.d
 have Fi:=hI.d
 refine zE<|zD 6<|jl (b:=b1) (off:=0) (m:=1) (vs:=[zI (p:Int)]) 0 ⟨_,_,_,.inl g1,rfl⟩<|zD 4<|jl (b:=Hb) (off:=0) (m:=11) (vs:=[W.a0,W.a1,W.a2,.slice me xs.length lQ,W.a4,zI W.D,zI W.S,.slice dS es.length dM,.slice ov K.hs.length od,.slice cV ls.length cU,.slice dh ps.length cY]) 3 ⟨_,_,_,.inl hH,rfl⟩<|zD 2<|jl (b:=b2) (off:=0) (m:=1) (vs:=[zI (d:Int)]) 0 ⟨_,_,_,.inl g2,rfl⟩<|zD 3<|jl (b:=Hb) (off:=0) (m:=11) (vs:=[W.a0,W.a1,W.a2,.slice me xs.length lQ,W.a4,zI W.D,zI W.S,.slice dS es.length dM,.slice ov K.hs.length od,.slice cV ls.length cU,.slice dh ps.length cY]) 8 ⟨_,_,_,.inl hH,rfl⟩<|zD 2<|dV 15 fun tc tj sI=>jn fun b20=>iv sI []<|zD 3<|zR (.slice (some ⟨b20,0,none⟩) 2 2) [] [0] [(b20,.cells ⟨[zI (p:Int),zI (xs.length:Int),zI (d:Int),zI (K.hs.length:Int)]⟩ 106 (0,0))] (by simp only[←Ha,←pP,←Fi];exact mE (b:=b20) (T:=106) [((p:Int),(xs.length:Int)),((d:Int),(K.hs.length:Int))] rfl (fun _ _=>rfl))
theorem aAK{K:cm}{W:fy}{ls:List aO}{ps:List bY}(hI:qK ro Hb K W u ls ps)(g1:ro b1=some (.cells ⟨[zI (d:Int)]⟩ 3 (0,0)))(g2:ro b2=some (.cells ⟨[zI (p:Int)]⟩ 3 (0,0)))(g3:ro b3=some (.cells ⟨[zI (q:Int)]⟩ 3 (0,0))):dX zT 64 [zP Hb,zP b1,zP b2,zP b3] ro [] (fun r Y=>aK r 2 106 ePr [((d:Int),(K.hs.length:Int)),((p:Int),(K.ar.length:Int)),((q:Int),(K.ar.length:Int))] Y):=by
 have cq:=hI.r
 obtain⟨xs,Ha,qR⟩:=cq.pe
 obtain⟨me,PJ,PH,lQ,sD,PI,OC,OB⟩:=qR
 obtain⟨es,pP,jb⟩:=cq.e
 obtain⟨dS,uY,uW,dM,qy,uX,rX,rW⟩:=jb
 obtain⟨cV,nn,nk,cU,hle,pG,jR,lh⟩:=cq.l
 obtain⟨dh,ou,oh,cY,qT,qa,nD,nC⟩:=cq.p
 obtain⟨ov,TN,TJ,od,Ju,TK,SD,SC⟩:=hI.hh
 have hH:ro Hb=some (.cells ⟨[W.a0,W.a1,W.a2,.slice me xs.length lQ,W.a4,zI W.D,zI W.S,.slice dS es.length dM,.slice ov K.hs.length od,.slice cV ls.length cU,.slice dh ps.length cY]⟩ 105 (0,0)):=by rw[←sD,←qy,←hle,←qT,←Ju];exact cq.h
 have Nn:=cq.n3
 have ON:=cq.e5
 have A5:=cq.ll
 have xb:=cq.pl
 have Rm:=cq.d
 have Fi:=hI.d
 refine zE<|zD 6<|jl (b:=b1) (off:=0) (m:=1) (vs:=[zI (d:Int)]) 0 ⟨_,_,_,.inl g1,rfl⟩<|zD 3<|jl (b:=Hb) (off:=0) (m:=11) (vs:=[W.a0,W.a1,W.a2,.slice me xs.length lQ,W.a4,zI W.D,zI W.S,.slice dS es.length dM,.slice ov K.hs.length od,.slice cV ls.length cU,.slice dh ps.length cY]) 8 ⟨_,_,_,.inl hH,rfl⟩<|zD 2<|jl (b:=b2) (off:=0) (m:=1) (vs:=[zI (p:Int)]) 0 ⟨_,_,_,.inl g2,rfl⟩<|zD 4<|jl (b:=Hb) (off:=0) (m:=11) (vs:=[W.a0,W.a1,W.a2,.slice me xs.length lQ,W.a4,zI W.D,zI W.S,.slice dS es.length dM,.slice ov K.hs.length od,.slice cV ls.length cU,.slice dh ps.length cY]) 3 ⟨_,_,_,.inl hH,rfl⟩<|zD 2<|jl (b:=b3) (off:=0) (m:=1) (vs:=[zI (q:Int)]) 0 ⟨_,_,_,.inl g3,rfl⟩<|zD 4<|jl (b:=Hb) (off:=0) (m:=11) (vs:=[W.a0,W.a1,W.a2,.slice me xs.length lQ,W.a4,zI W.D,zI W.S,.slice dS es.length dM,.slice ov K.hs.length od,.slice cV ls.length cU,.slice dh ps.length cY]) 3 ⟨_,_,_,.inl hH,rfl⟩<|zD 2<|dV 23 fun tc tj sI=>jn fun b29=>iv sI []<|zD 3<|zR (.slice (some ⟨b29,0,none⟩) 3 3) [] [0] [(b29,.cells ⟨[zI (d:Int),zI (K.hs.length:Int),zI (p:Int),zI (xs.length:Int),zI (q:Int),zI (xs.length:Int)]⟩ 106 (0,0))] (by simp only[←Ha,←pP,←Fi];exact mE (b:=b29) (T:=106) [((d:Int),(K.hs.length:Int)),((p:Int),(xs.length:Int)),((q:Int),(xs.length:Int))] rfl (fun _ _=>rfl))
theorem aAC{K:cm}{W:fy}{ls:List aO}{ps:List bY}(hI:qK ro Hb K W u ls ps)(g1:ro b1=some (.cells ⟨[zI (p:Int)]⟩ 3 (0,0))):dX zT 66 [zP Hb,zP b1] ro [] (fun r Y=>aK r 2 106 ePr [((p:Int),(K.ax.length:Int))] Y):=by
 have cq:=hI.r
 obtain⟨xs,Ha,qR⟩:=cq.pe
 obtain⟨me,PJ,PH,lQ,sD,PI,OC,OB⟩:=qR
 obtain⟨es,pP,jb⟩:=cq.e
 obtain⟨dS,uY,uW,dM,qy,uX,rX,rW⟩:=jb
 obtain⟨cV,nn,nk,cU,hle,pG,jR,lh⟩:=cq.l
 obtain⟨dh,ou,oh,cY,qT,qa,nD,nC⟩:=cq.p
 obtain⟨ov,TN,TJ,od,Ju,TK,SD,SC⟩:=hI.hh
 have hH:ro Hb=some (.cells ⟨[W.a0,W.a1,W.a2,.slice me xs.length lQ,W.a4,zI W.D,zI W.S,.slice dS es.length dM,.slice ov K.hs.length od,.slice cV ls.length cU,.slice dh ps.length cY]⟩ 105 (0,0)):=by rw[←sD,←qy,←hle,←qT,←Ju];exact cq.h
 have Nn:=cq.n3
 have ON:=cq.e5
 have A5:=cq.ll
 have xb:=cq.pl
 have Rm:=cq.d
 have Fi:=hI.d
 refine zE<|zD 6<|jl (b:=b1) (off:=0) (m:=1) (vs:=[zI (p:Int)]) 0 ⟨_,_,_,.inl g1,rfl⟩<|zD 4<|jl (b:=Hb) (off:=0) (m:=11) (vs:=[W.a0,W.a1,W.a2,.slice me xs.length lQ,W.a4,zI W.D,zI W.S,.slice dS es.length dM,.slice ov K.hs.length od,.slice cV ls.length cU,.slice dh ps.length cY]) 7 ⟨_,_,_,.inl hH,rfl⟩<|zD 2<|dV 8 fun tc tj sI=>jn fun wK=>iv sI []<|zD 3<|zR (.slice (some ⟨wK,0,none⟩) 1 1) [] [0] [(wK,.cells ⟨[zI (p:Int),zI (es.length:Int)]⟩ 106 (0,0))] (by simp only[←Ha,←pP,←Fi];exact mE (b:=wK) (T:=106) [((p:Int),(es.length:Int))] rfl (fun _ _=>rfl))
theorem Az{K:cm}{f:FuncId}(hK:du ro l K)(hV:kV K)(Co:A8 zT f=true)(hpr:∀aR Hb W u ls ps,Sub ro aR→qK aR Hb K W u ls ps→dX zT f (fi++[zP Hb]++ca) aR [] (fun r Y=>∃xs,aK r 2 106 ePr xs Y∧FY xs)):aa9 zT 45 [.agg ⟨l⟩,(.func (.func f) ⟨fi⟩ ⟨ca⟩)] ro [] (fun r aV Y=>∃Hb W u ls ps,r= .tuple ⟨[zP Hb,zI 0]⟩∧qK aV Hb K W u ls ps∧Y=[]):=by
 have cz:=hK
 obtain⟨vS,vT,vP,vR,vE,fa,fc,rfl,hS,hT,hp,hr,he⟩:=hK
 have y3:=hp
 have Hx:=he
 have p6:=hr
 obtain⟨dh,ou,oh,cY,rfl,qa,nD,nC⟩:=hp
 obtain⟨dS,uY,uW,dM,rfl,uX,rX,rW⟩:=he
 refine aeZ (hm:=aE) [] [] bJ fun fr=>zD 2<|jn fun b2=>jd 6 [0]<|tD (vs:=[.agg ⟨[vS,vT,.slice fa 0 fc,.slice dh K.ar.length cY,vR,zI K.days,zI K.stay,.slice dS K.ax.length dM]⟩]) [] (fun _ _ h=>h) (tC cz hV) ?_
 rintro _ aV _ cR ⟨Hb,W,u,ls,ps,rfl,kS,rfl⟩
 refine jg 0 []<|zD 19<|jcF (vs:=fi++[Value.pointer (some ⟨Hb,0,none⟩)]++ca) [] Co (hpr _ _ _ _ _ _ cR kS) ?_
 rintro v20 Y20 ⟨xs,Q5,qR⟩
 obtain⟨S1,SY,UZ⟩:=Q5.form
 subst UZ
 have hxl:=qR.1
 refine zD 4<|fX [1,1,1,0,1,0,0] [] (fun(zz:Nat)=>[(6,zP Hb),(20,(.slice S1 xs.length SY)),(21,zI (xs.length:Int)),(22,zI (zz:Int))]) (fun zz=>[.l Y20,.b b2 (.cells ⟨[vS,vT,.slice fa 0 fc,.slice dh K.ar.length cY,vR,zI K.days,zI K.stay,.slice dS K.ax.length dM]⟩ 33 (0,0)),.l fr]) (fun zz=>zz≤xs.length) (fun zz=>xs.length-zz) 0 (Nat.zero_le _) [0,1,2] ?_
 rintro k hI K1 cz rest
 refine zD 5<|zJ 23 ((k:Int) <(xs.length:Int)) (fun h2=>?_) fun h2=>?_
 ·
  refine zD 6 ?_
  obtain⟨x24,UE⟩:=zG xs k
  refine jxo 2 Q5 UE fun b24 aPX=>uD 0 [0] Y20 (fun s _ hZ=>p9 Q5 aPX hZ UE)<|jn fun b9=>jd 3 [0] ?_
  have hq:=qR.2 _ (zL UE)
  refine jd 5 [0,0]<|zW (x24.2-1)<|jp (vs:=[zI x24.1,zI 0,zI (x24.2-1)]) [] [] (fun aV hs hZ=>E9)<|zD 2<|js 32 (!(gY x24.1 0 (x24.2-1))) (fun h3=>?_) (fun h3=>?_)
  ·
   try simp only[zB] at h3
   exfalso;simp[gY] at h3;omega
  try simp only[zB] at h3
  refine zD 3<|zW ((k:Int)+1)<|zD 2<|zY cz (k+1) (by omega) [1,2,3]
 refine zD 9<|aBk qC.a (.tuple ⟨[zP Hb,zI 0]⟩) [2] [] cR ⟨Hb,W,u,ls,ps,rfl,kS,rfl⟩
def ET(f:aH→Int)(L:List aH)(ds:List Int):Prop:=ds.Nodup∧(ds.all fun x=>L.any fun t=>decide (f t=x))=true∧(L.all fun t=>ds.contains (f t))=true
theorem ET.perm{f:aH→Int}{L L':List aH}(h:ET f L' ds)(hL:L.Perm L')(hz:zs.Perm ((Nc f L).map (·.1))):zs.Perm ds:=ZF hz hL h.1 h.2.1 h.2.2
theorem ET.len{f:aH→Int}{L L':List aH}(h:ET f L' ds)(hL:L.Perm L'):(Nc f L).length=ds.length:=by
 have:=(h.perm hL (.refl _)).length_eq
 simpa using this
theorem ab1{t:aH}{k:Nat}(hk:k <3)(h1:1≤d)(hd:d≤4):nth (Fu t) (1+(k:Int).toNat*4+((d:Int)-1).toNat*1)=some (zI ((t.at k).at (d-1))):=by
 have e:((d:Int)-1).toNat=((d-1:Nat):Int).toNat:=by omega
 rw[e];exact yl hk (by omega)
def agL(t:aH)(p q:Nat)(h:Int):Nat→Bool
 |0=>false
 |m+1=>agL t p q h m||(decide ((t.at p).at m=h)&&decide ((t.at q).at (m+1)=h))
def JB(D:Int)(t:aH)(p q:Nat)(h:Int):Bool:=agL t p q h (D.toNat-1)
theorem ND{t:aH}{k:Nat}(h1:1≤k):agL t p q h k=(agL t p q h (k-1)||(decide ((t.at p).at (k-1)=h)&&decide ((t.at q).at k=h))):=by
 obtain⟨m,rfl⟩:∃m,k=m+1:=⟨k-1,by omega⟩
 rfl
def Mj(a n:Int):Int:=bif decide (n=0) then 0 else bif decide (a=n) then 1 else bif decide (a=0) then 2 else 3
def OX(n:Int):Int:=bif decide (n=0) then 9 else 0
theorem ai6(a n:Int):SW a n= .tuple ⟨[zI (Mj a n),zI (OX n)]⟩:=by
 unfold SW Mj OX
 by_cases h1:n=0
 ·simp[h1]
 by_cases h2:a=n
 ·simp[h1,h2]
 by_cases h3:a=0
 ·subst h3;simp[h1,h2]
 simp[h1,h2,h3]
theorem Sm{t:aH}{k:Nat}{l:aO}(hk:k <3):(t.put k l).at k=l:=by
 rcases Ue hk with rfl|rfl|rfl<;>rfl
theorem adq{t:aH}{k:Nat}{l:aO}:(t.put k l).past=t.past:=by
 rcases k with _|_|k<;>rfl
theorem KY{ls:List aO}{mk:Nat→Nat→aO→Int}{t':aH}:∀(n:Nat) (t:aH) (p:Nat) (m:Int),p+n≤3→t'∈nu D ls mk need n t p m→t'.past=t.past∧(∀j,j <p→t'.at j=t.at j)∧∀j,p≤j→j <p+n→t'.at j∈ls
 |0,t,p,m,_,h=>by
  simp only[nu] at h
  cases hc: !decide (sC .u8 need m=0) with
  |true=>rw[hc] at h;simp at h
  |false=>
   rw[hc] at h
   simp at h;subst h
   exact⟨rfl,fun _ _=>rfl,fun j h1 h2=>by omega⟩
 |n+1,t,p,m,hp,h=>by
  simp only[nu,List.mem_flatMap] at h
  obtain⟨x,hx,h⟩:=h
  cases hf:qt D t p x with
  |false=>rw[hf] at h;simp at h
  |true=>
   rw[hf] at h
   obtain⟨h1,h2,h3⟩:=KY n (t.put p x) (p+1) _ (by omega) h
   refine⟨h1.trans adq,fun j hj=>(h2 j (by omega)).trans (aH.VI hj (by omega)),fun j h4 h5=>?_⟩
   by_cases e:j=p
   ·subst e;rw[h2 j (by omega),Sm (by omega)];exact hx
   exact h3 j (by omega) (by omega)
theorem ab2{ls:List aO}{mk:Nat→Nat→aO→Int}{k:Nat}{t:aH}(hn:np≤3)(h:t∈dY D ls mk np k need):(0≤t.past∧t.past <k)∧∀j,j <np→t.at j∈ls:=by
 simp only[dY,List.mem_flatMap,List.mem_range,PX] at h
 obtain⟨i,hi,h⟩:=h
 obtain⟨h1,_,h3⟩:=KY np (ajk i) 0 0 (by omega) h
 refine⟨by rw[h1];simp only[ajk];omega,fun j hj=>h3 j (Nat.zero_le _) (by omega)⟩
def JR(mk:Nat→Nat→aO→Int)(np:Nat)(e:Int)(L:List aH):List (Int×Value):=L.foldl (fun F t=>nF mk t e F np) []
theorem SS{mk:Nat→Nat→aO→Int}{L:List aH}{k:Nat}{t:aH}(h:L[k]?=some t):JR mk np e (L.take (k+1))=nF mk t e (JR mk np e (L.take k)) np:=by
 rw[List.take_add_one,h];simp[JR,List.foldl_append]
theorem Gb{mk:Nat→Nat→aO→Int}{t:aH}{e:Int}{F:List (Int×Value)}(hn:(F.map (·.1)).Nodup):∀k:Nat,((nF mk t e F k).map (·.1)).Nodup∧∀x,x∈(nF mk t e F k).map (·.1)↔x∈F.map (·.1)∨∃j:Nat,j <k∧lB (mk t.past.toNat j (t.at j)) e=true∧x=(j:Int)
 |0=>⟨hn,fun x=>by simp[nF]⟩
 |k+1=>by
  obtain⟨h1,h2⟩:=Gb (mk:=mk) (t:=t) (e:=e) hn k
  cases hb:lB (mk t.past.toNat k (t.at k)) e with
  |true=>
   rw[Me hb]
   refine⟨JV h1,fun x=>?_⟩
   rw[V8,h2]
   constructor
   ·rintro(rfl|h| ⟨j,hj,h,rfl⟩)
    ·exact .inr ⟨k,by omega,hb,rfl⟩
    ·exact .inl h
    exact .inr ⟨j,by omega,h,rfl⟩
   rintro(h| ⟨j,hj,h,rfl⟩)
   ·exact .inr (.inl h)
   by_cases ej:j=k
   ·subst ej;exact .inl rfl
   exact .inr (.inr ⟨j,by omega,h,rfl⟩)
  |false=>
   rw[Mf hb]
   refine⟨h1,fun x=>?_⟩
   rw[h2]
   constructor
   ·rintro(h| ⟨j,hj,h,rfl⟩)
    ·exact .inl h
    exact .inr ⟨j,by omega,h,rfl⟩
   rintro(h| ⟨j,hj,h,rfl⟩)
   ·exact .inl h
   by_cases ej:j=k
   ·subst ej;rw[hb] at h;cases h
   exact .inr ⟨j,by omega,h,rfl⟩
theorem Ga{mk:Nat→Nat→aO→Int}{np:Nat}{e:Int}:∀(L:List aH) (F:List (Int×Value)),(F.map (·.1)).Nodup→((L.foldl (fun F t=>nF mk t e F np) F).map (·.1)).Nodup∧∀x,x∈(L.foldl (fun F t=>nF mk t e F np) F).map (·.1)↔x∈F.map (·.1)∨∃t∈L,∃j:Nat,j <np∧lB (mk t.past.toNat j (t.at j)) e=true∧x=(j:Int)
 | [],F,h=>⟨h,fun x=>by simp⟩
 |t::L,F,h=>by
  obtain⟨a1,a2⟩:=Gb (mk:=mk) (t:=t) (e:=e) h np
  have:=Ga (mk:=mk) (np:=np) (e:=e) L _ a1
  refine⟨this.1,fun x=>?_⟩
  rw[List.foldl_cons,this.2 x,a2]
  constructor
  ·rintro((h|h)| ⟨u,hu,h⟩)
   ·exact .inl h
   ·exact .inr ⟨t,by simp,h⟩
   exact .inr ⟨u,by simp[hu],h⟩
  rintro(h| ⟨u,hu,h⟩)
  ·exact .inl (.inl h)
  rcases List.mem_cons.1 hu with rfl|hu
  ·exact .inl (.inr h)
  exact .inr ⟨u,hu,h⟩
def abH(mk:Nat→Nat→aO→Int)(np:Nat)(e:Int)(L:List aH)(x:Int):Bool:=L.any fun t=>(List.range np).any fun j=>lB (mk t.past.toNat j (t.at j)) e&&decide (x=(j:Int))
def aib(mk:Nat→Nat→aO→Int)(np:Nat)(e:Int)(L:List aH)(ds:List Int):Prop:=ds=((List.range np).map fun(j:Nat)=>(j:Int)).filter (abH mk np e L)
theorem YC{mk:Nat→Nat→aO→Int}{L:List aH}:abH mk np e L x=true↔∃t∈L,∃j:Nat,j <np∧lB (mk t.past.toNat j (t.at j)) e=true∧x=(j:Int):=by
 simp only[abH,List.any_eq_true,List.mem_range,Bool.and_eq_true,decide_eq_true_eq]
theorem aib.perm{mk:Nat→Nat→aO→Int}{L L':List aH}(h:aib mk np e L' ds)(hL:L.Perm L')(hz:zs.Perm ((JR mk np e L).map (·.1))):zs.Perm ds:=by
 obtain⟨h1,h2⟩:=Ga (mk:=mk) (np:=np) (e:=e) L [] List.nodup_nil
 have hd:ds.Nodup:=by
  rw[h]
  refine List.Nodup.sublist List.filter_sublist<|List.Pairwise.map _ (fun a b (h:a≠b) e=>h (by omega)) List.nodup_range
 refine(List.perm_ext_iff_of_nodup ((hz.nodup_iff).2 h1) hd).2 fun x=>?_
 rw[hz.mem_iff,JR,h2 x,h,List.mem_filter,YC]
 simp only[List.map_nil,List.not_mem_nil,false_or,List.mem_map,List.mem_range]
 constructor
 ·rintro⟨t,ht,j,hj,hb,rfl⟩
  exact⟨⟨j,hj,rfl⟩,t,hL.mem_iff.1 ht,j,hj,hb,rfl⟩
 rintro⟨_,t,ht,j,hj,hb,rfl⟩
 exact⟨t,hL.mem_iff.2 ht,j,hj,hb,rfl⟩
theorem aAL{t:aH}{bw b4:Nat}{a n:Int}{W:fy}{ls:List aO}{ps:List bY}{mk:Nat→Nat→aO→Int}(cq:wm ro Hb W u np ne ls ps mk)(g1:ro bw=some (.cells ⟨[zP Hb]⟩ 95 (0,0)))(g2:ro b2=some (.cells ⟨[zI (p:Int)]⟩ 3 (0,0)))(g3:ro b3=some (.cells ⟨[zI h]⟩ 3 (0,0)))(g4:ro b4=some (.cells ⟨[zI (q:Int)]⟩ 3 (0,0)))(hp:p <3)(hq:q <3)(ha:0≤a∧a≤n)(hn:n≤1000000):dX zT 65 [.agg ⟨[zI t.past,zI t.x.a,zI t.x.b,zI t.x.c,zI t.x.d,zI t.y.a,zI t.y.b,zI t.y.c,zI t.y.d,zI t.z.a,zI t.z.b,zI t.z.c,zI t.z.d]⟩,zP bw,zP b2,zP b3,zP b4,zP y] ro [(y,.cells ⟨[zI a,zI n]⟩ 122 (0,0))] (fun r Y=>r= .tuple ⟨[]⟩∧Y=[(y,.cells ⟨[zI (a+bif (JB W.D t p q h) then 1 else 0),zI (n+1)]⟩ 122 (0,0))]):=by
 obtain⟨xs,Ha,qR⟩:=cq.pe
 obtain⟨me,PJ,PH,lQ,sD,PI,OC,OB⟩:=qR
 obtain⟨es,pP,jb⟩:=cq.e
 obtain⟨dS,uY,uW,dM,qy,uX,rX,rW⟩:=jb
 obtain⟨cV,nn,nk,cU,hle,pG,jR,lh⟩:=cq.l
 obtain⟨dh,ou,oh,cY,qT,qa,nD,nC⟩:=cq.p
 have hH:ro Hb=some (.cells ⟨[W.a0,W.a1,W.a2,.slice me xs.length lQ,W.a4,zI W.D,zI W.S,.slice dS es.length dM,(.slice W.ha W.H W.ek),.slice cV ls.length cU,.slice dh ps.length cY]⟩ 105 (0,0)):=by rw[←sD,←qy,←hle,←qT];exact cq.h
 have Nn:=cq.n3
 have ON:=cq.e5
 have A5:=cq.ll
 have xb:=cq.pl
 have Rm:=cq.d
 refine zC [.b y (.cells ⟨[zI a,zI n]⟩ 122 (0,0))]<|zD 2<|jn fun b6=>zD 11<|fX [1,1,0,1,0,0] [] (fun(zz:Nat×Bool)=>[(1,zP bw),(2,zP b2),(3,zP b3),(4,zP b4),(5,zP y),(6,zP b6),(7,.bool zz.2),(8,zI (zz.1:Int))]) (fun zz=>[.b b6 (.cells ⟨[zI t.past,zI t.x.a,zI t.x.b,zI t.x.c,zI t.x.d,zI t.y.a,zI t.y.b,zI t.y.c,zI t.y.d,zI t.z.a,zI t.z.b,zI t.z.c,zI t.z.d]⟩ 115 (0,0)),.b y (.cells ⟨[zI a,zI n]⟩ 122 (0,0))]) (fun zz=>(1≤zz.1∧(zz.1:Int)≤W.D)∧zz.2=agL t p q h (zz.1-1)) (fun zz=>W.D.toNat-zz.1) (⟨1,false⟩) ⟨⟨by dsimp only;omega,by dsimp only;omega⟩,rfl⟩ [0,1] ?_
 rintro⟨k,is⟩ hI K1 cz rest
 dsimp only at hI
 refine zD 4<|jl (b:=bw) (off:=0) (m:=1) (vs:=[zP Hb]) 0 ⟨_,_,_,.inl g1,rfl⟩<|zD 3<|jl (b:=Hb) (off:=0) (m:=11) (vs:=[W.a0,W.a1,W.a2,.slice me xs.length lQ,W.a4,zI W.D,zI W.S,.slice dS es.length dM,(.slice W.ha W.H W.ek),.slice cV ls.length cU,.slice dh ps.length cY]) 5 ⟨_,_,_,.inl hH,rfl⟩<|zD 2<|zJ 15 ((k:Int) <W.D) (fun h1=>?_) fun h1=>?_
 ·
  refine zD 7<|js 1 is (fun h2=>?_) (fun h2=>?_)
  ·
   refine zD 24<|zW ((k:Int)+1)<|zD 2<|zY cz (⟨k+1,true⟩) ⟨⟨by dsimp only;omega,by dsimp only;omega⟩,by dsimp only;rw[Nat.add_sub_cancel,ND hI.1.1,←hI.2];clear hI;simp[*]⟩ [0,1]
  refine jl (b:=b2) (off:=0) (m:=1) (vs:=[zI (p:Int)]) 0 ⟨_,_,_,.inl g2,rfl⟩<|zD 1<|zW ((k:Int)-1)<|zD 1<|xa (b:=b6) (off:=1) (len:=3) (sz:=4) (p:Int) (by omega)<|xa (b:=b6) (off:=1+(p:Int).toNat*4) (len:=4) (sz:=1) ((k:Int)-1) (by omega)<|uD (b:=b6) (off:=1+(p:Int).toNat*4+((k:Int)-1).toNat*1) (m:=1) (vs:=[zI ((t.at p).at (k-1))]) 0 [0] [(b6,.cells ⟨[zI t.past,zI t.x.a,zI t.x.b,zI t.x.c,zI t.x.d,zI t.y.a,zI t.y.b,zI t.y.c,zI t.y.d,zI t.z.a,zI t.z.b,zI t.z.c,zI t.z.d]⟩ 115 (0,0))] (fun s _ hZ=>fo (hZ _ (.head _)) (ab1 (t:=t) (by omega) (by omega) (by omega)))<|jl (b:=b3) (off:=0) (m:=1) (vs:=[zI h]) 0 ⟨_,_,_,.inl g3,rfl⟩<|zD 2<|js 11 (decide (((t.at p).at (k-1))=h)) (fun h3=>?_) (fun h3=>?_)
  ·
   have vK:=h3
   replace vK:=of_decide_eq_true vK
   refine jl (b:=b4) (off:=0) (m:=1) (vs:=[zI (q:Int)]) 0 ⟨_,_,_,.inl g4,rfl⟩<|zD 2<|xa (b:=b6) (off:=1) (len:=3) (sz:=4) (q:Int) (by omega)<|xa (b:=b6) (off:=1+(q:Int).toNat*4) (len:=4) (sz:=1) (k:Int) (by omega)<|uD (b:=b6) (off:=1+(q:Int).toNat*4+(k:Int).toNat*1) (m:=1) (vs:=[zI ((t.at q).at k)]) 0 [0] [(b6,.cells ⟨[zI t.past,zI t.x.a,zI t.x.b,zI t.x.c,zI t.x.d,zI t.y.a,zI t.y.b,zI t.y.c,zI t.y.d,zI t.z.a,zI t.z.b,zI t.z.c,zI t.z.d]⟩ 115 (0,0))] (fun s _ hZ=>fo (hZ _ (.head _)) (yl (t:=t) (by omega) (by omega)))<|jl (b:=b3) (off:=0) (m:=1) (vs:=[zI h]) 0 ⟨_,_,_,.inl g3,rfl⟩<|zD 7<|zW ((k:Int)+1)<|zD 2<|zY cz (⟨k+1,decide (((t.at q).at k)=h)⟩) ⟨⟨by dsimp only;omega,by dsimp only;omega⟩,by dsimp only;rw[Nat.add_sub_cancel,ND hI.1.1,←hI.2];clear hI;simp[*]⟩ [0,1]
  have vK:=h3
  replace vK:=of_decide_eq_false vK
  refine zD 14<|zW ((k:Int)+1)<|zD 2<|zY cz (⟨k+1,false⟩) ⟨⟨by dsimp only;omega,by dsimp only;omega⟩,by dsimp only;rw[Nat.add_sub_cancel,ND hI.1.1,←hI.2];clear hI;simp[*]⟩ [0,1]
 refine zD 2 ?_
 have his:is=(JB W.D t p q h):=by rw[hI.2,JB,show W.D.toNat-1=k-1 by omega]
 refine zD 2<|jc (vs:=[zP y,.bool is]) [1] (aeM (y:=y) (c:=is) ha hn) ?_
 rintro _ _ ⟨rfl,rfl⟩
 refine jg 0 [.b y (.cells ⟨[zI (a+bif is then 1 else 0),zI (n+1)]⟩ 122 (0,0))]<|zD 1<|zR (.tuple ⟨[]⟩) [] [0] [(y,.cells ⟨[zI (a+bif is then 1 else 0),zI (n+1)]⟩ 122 (0,0))] ⟨rfl,by rw[←his]⟩
def MA(D:Int)(p:Nat)(h:Int)(t:aH):Option Int:=bif decide (c9 (fun y=>decide (h=y)) ((fS (t.at p)).take D.toNat) 0≥0) then some (c9 (fun y=>decide (h=y)) ((fS (t.at p)).take D.toNat) 0) else none
theorem Qy{K:cm}(hK:du ro l K)(hV:kV K):EY zT 25 [.agg ⟨l⟩] ro [] (fun r Y=>r= .tuple ⟨[zI ((iy K (allM K.ax.length)).length:Int),zI 0]⟩∧Y=[]):=by
 have cz:=hK
 obtain⟨vS,vT,vP,vR,vE,fa,fc,rfl,hS,hT,hp,hr,he⟩:=hK
 have y3:=hp
 have Hx:=he
 have p6:=hr
 obtain⟨dh,ou,oh,cY,rfl,qa,nD,nC⟩:=hp
 obtain⟨dS,uY,uW,dM,rfl,uX,rX,rW⟩:=he
 have Xs:=hV.SE
 have Ew:=hV.days
 have qy:=hV.ax
 refine BC aE [] [] bJ fun fr=>zD 2<|jn fun b1=>jd 6 [0]<|tD (vs:=[.agg ⟨[vS,vT,.slice fa 0 fc,.slice dh K.ar.length cY,vR,zI K.days,zI K.stay,.slice dS K.ax.length dM]⟩]) [] (fun _ _ h=>h) (tC cz hV) ?_
 rintro _ aV _ cR ⟨Hb,W,u,ls,ps,rfl,kS,rfl⟩
 have wH:=kS.Ab (allM K.ax.length)
 have AK:=wH.length_eq
 refine jg 0 []<|zD 18<|jc (vs:=[zP Hb,.agg ⟨[.nilFunc]⟩]) [] (akZ kS.r (by rw[AK];exact hV.n)) ?_
 rintro _ _ ⟨rfl,rfl⟩
 refine jg 0 []<|zD 4<|Ur qC.a (.tuple ⟨[zI ((dY W.D ls (nN K) K.ar.length ps.length (allM K.ax.length)).length:Int),zI 0]⟩) [1] [] cR ⟨by rw[AK],rfl⟩
theorem akX{K:cm}(hK:du ro l K)(hV:kV K)(hp:p <K.ar.length)(hd:(d:Int) <K.days)(hT:0 <(iy K (allM K.ax.length)).length)(Jw:ET (fun t:aH=>(t.at p).at d) (iy K (allM K.ax.length)) ds)(hdl:ds.length≤12):EY zT 13 [.agg ⟨l⟩,zI (p:Int),zI (d:Int)] ro [] (fun r Y=>∃v zs,r= .tuple ⟨[v,zI 0]⟩∧zs.Perm ds∧aK v 1 3 dc (nJ zs) Y):=by
 have cz:=hK
 obtain⟨vS,vT,vP,vR,vE,fa,fc,rfl,hS,hT,hp,hr,he⟩:=hK
 have y3:=hp
 have Hx:=he
 have p6:=hr
 obtain⟨dh,ou,oh,cY,rfl,qa,nD,nC⟩:=hp
 obtain⟨dS,uY,uW,dM,rfl,uX,rX,rW⟩:=he
 have Xs:=hV.SE
 have Ew:=hV.days
 have qy:=hV.ax
 refine BC aE [] [] bJ fun fr=>zD 2<|jn fun b3=>jn fun b4=>jn fun b5=>zD 2<|jf [1,0] ((b4,.cells ⟨[zI (p:Int)]⟩ 3 (0,0))::[(b5,.cells ⟨[zI (d:Int)]⟩ 3 (0,0))]) fun yW cR fe=>jd 5 [0]<|tD (vs:=[.agg ⟨[vS,vT,.slice fa 0 fc,.slice dh K.ar.length cY,vR,zI K.days,zI K.stay,.slice dS K.ax.length dM]⟩,.func (.func 46) ⟨[]⟩ ⟨[zP b4,zP b5]⟩]) [] (fun _ _ h=>h) (Az (f:=46) (fi:=[]) (ca:=[zP b4,zP b5]) (cz.up cR) hV (by kernel_rfl) (fun aR Hb W u ls ps hs hI=>(asg hI (hs _ _ (fe _ (.head _))) (hs _ _ (fe _ (.tail _ (.head _))))).mono fun _ _ h=>⟨_,h,ake (by omega) (by omega)⟩)) ?_
 rintro _ Tq _ nz ⟨Hb,W,u,ls,ps,rfl,kS,rfl⟩
 have wH:=kS.Ab (allM K.ax.length)
 have AK:=wH.length_eq
 have Fi:=kS.d
 refine jg 0 []<|zD 16<|jmk vB fun r20 L20 atJ=>jn fun Ba=>jd 1 [0]<|jf [0] [(Ba,.cells ⟨[(.map (some r20))]⟩ 109 (0,0))] fun ro7 rS FP=>zD 7<|jc (vs:=[zP Hb,.agg ⟨[.func (.func 48) ⟨[]⟩ ⟨[zP Ba,zP b4,zP b5]⟩]⟩]) [0] (xD (f:=48) (fi:=[]) (ca:=[zP Ba,zP b4,zP b5]) (Jn:=fun k Y=>fH r20 vB (Nc (fun t:aH=>(t.at p).at d) ((dY W.D ls (nN K) K.ar.length ps.length (allM K.ax.length)).take k)) Y) (kS.r.up rS) (by kernel_rfl) atJ (fun k x hx aR hs B hB=>(akY (hs _ _ (FP _ (.head _))) (hs _ _ (rS _ _ (nz _ _ (fe _ (.head _))))) (hs _ _ (rS _ _ (nz _ _ (fe _ (.tail _ (.head _)))))) (by omega) (by omega) hB).mono fun _ _ h=>by rw[KE hx];exact h.2) (by rw[AK];exact hV.n)) ?_
 rintro _ Y99 ⟨rfl,ry⟩
 simp only[List.take_length] at ry
 obtain⟨esS,ckS,rfl,hES⟩:=ry
 refine jg 0 [.b r20 (.map esS ckS)]<|zD 1<|jf [0] [(r20,.map esS ckS)] (fun ayD hs8 OM=>?_)
 have hmS:=OM _ (.head _)
 refine zD 1<|zJ 25 (((dY W.D ls (nN K) K.ar.length ps.length (allM K.ax.length)).length:Int)=0) (fun zb=>?_) fun zb=>?_
 ·
  exfalso;omega
 refine zD 4<|jl (b:=Ba) (off:=0) (m:=1) (vs:=[(.map (some r20))]) 0 ⟨_,_,_,.inl (hs8 _ _ (FP _ (.head _))),rfl⟩<|jc (vs:=[(.map (some r20))]) [] (aeL hmS hES (by rw[Jw.len wH];exact hdl)) ?_
 rintro v88 L88 ⟨zs,hzs,QZ⟩
 obtain⟨abR,abK,af5⟩:=QZ.form
 subst af5
 refine zD 4<|Ur qC.a.a.a.a (.tuple ⟨[(.slice abR (nJ zs).length abK),zI 0]⟩) [0,2] L88 (((cR.trans nz).trans rS).trans hs8) ⟨_,zs,rfl,Jw.perm wH hzs,QZ⟩
theorem aAz{K:cm}(hK:du ro l K)(hV:kV K)(hp:p <K.hs.length)(hd:(d:Int) <K.days)(hT:0 <(iy K (allM K.ax.length)).length)(Jw:ET (fun t:aH=>AO K.ar.length t (p:Int) d) (iy K (allM K.ax.length)) ds)(hdl:ds.length≤12):EY zT 14 [.agg ⟨l⟩,zI (p:Int),zI (d:Int)] ro [] (fun r Y=>∃v zs,r= .tuple ⟨[v,zI 0]⟩∧zs.Perm ds∧aK v 1 3 dc (nJ zs) Y):=by
 have cz:=hK
 obtain⟨vS,vT,vP,vR,vE,fa,fc,rfl,hS,hT,hp,hr,he⟩:=hK
 have y3:=hp
 have Hx:=he
 have p6:=hr
 obtain⟨dh,ou,oh,cY,rfl,qa,nD,nC⟩:=hp
 obtain⟨dS,uY,uW,dM,rfl,uX,rX,rW⟩:=he
 have Xs:=hV.SE
 have Ew:=hV.days
 have qy:=hV.ax
 have hh3:=hV.h3
 refine BC aE [] [] bJ fun fr=>zD 2<|jn fun b3=>jn fun b4=>jn fun b5=>zD 2<|jf [1,0] ((b4,.cells ⟨[zI (p:Int)]⟩ 3 (0,0))::[(b5,.cells ⟨[zI (d:Int)]⟩ 3 (0,0))]) fun yW cR fe=>jd 5 [0]<|tD (vs:=[.agg ⟨[vS,vT,.slice fa 0 fc,.slice dh K.ar.length cY,vR,zI K.days,zI K.stay,.slice dS K.ax.length dM]⟩,.func (.func 50) ⟨[]⟩ ⟨[zP b4,zP b5]⟩]) [] (fun _ _ h=>h) (Az (f:=50) (fi:=[]) (ca:=[zP b4,zP b5]) (cz.up cR) hV (by kernel_rfl) (fun aR Hb W u ls ps hs hI=>(aAA hI (hs _ _ (fe _ (.head _))) (hs _ _ (fe _ (.tail _ (.head _))))).mono fun _ _ h=>⟨_,h,ake (by omega) (by omega)⟩)) ?_
 rintro _ Tq _ nz ⟨Hb,W,u,ls,ps,rfl,kS,rfl⟩
 have wH:=kS.Ab (allM K.ax.length)
 have AK:=wH.length_eq
 have Fi:=kS.d
 refine jg 0 []<|zD 16<|jmk vB fun r21 L21 aCz=>jn fun Ba=>jd 6 [0]<|jn fun I0=>jd 1 [0]<|jf [1,0] ((Ba,.cells ⟨[(.map (some r21))]⟩ 109 (0,0))::[(I0,.cells ⟨[.func (.func 51) ⟨[zP Hb]⟩ ⟨[]⟩]⟩ 120 (0,0))]) fun ro7 rS FP=>zD 7<|jc (vs:=[zP Hb,.agg ⟨[.func (.func 52) ⟨[]⟩ ⟨[zP Ba,zP I0,zP b4,zP b5]⟩]⟩]) [0] (xD (f:=52) (fi:=[]) (ca:=[zP Ba,zP I0,zP b4,zP b5]) (Jn:=fun k Y=>fH r21 vB (Nc (fun t:aH=>AO K.ar.length t (p:Int) d) ((dY W.D ls (nN K) K.ar.length ps.length (allM K.ax.length)).take k)) Y) (kS.r.up rS) (by kernel_rfl) aCz (fun k x hx aR hs B hB=>(aAB (kS.r.up (rS.trans hs)) (hs _ _ (FP _ (.head _))) (hs _ _ (FP _ (.tail _ (.head _)))) (hs _ _ (rS _ _ (nz _ _ (fe _ (.head _))))) (hs _ _ (rS _ _ (nz _ _ (fe _ (.tail _ (.head _)))))) (by omega) hB).mono fun _ _ h=>by rw[KE hx];exact h.2) (by rw[AK];exact hV.n)) ?_
 rintro _ Y99 ⟨rfl,ry⟩
 simp only[List.take_length] at ry
 obtain⟨esS,ckS,rfl,hES⟩:=ry
 refine jg 0 [.b r21 (.map esS ckS)]<|zD 1<|jf [0] [(r21,.map esS ckS)] (fun ayD hs8 OM=>?_)
 have hmS:=OM _ (.head _)
 refine zD 1<|zJ 28 (((dY W.D ls (nN K) K.ar.length ps.length (allM K.ax.length)).length:Int)=0) (fun zb=>?_) fun zb=>?_
 ·
  exfalso;omega
 refine zD 4<|jl (b:=Ba) (off:=0) (m:=1) (vs:=[(.map (some r21))]) 0 ⟨_,_,_,.inl (hs8 _ _ (FP _ (.head _))),rfl⟩<|jc (vs:=[(.map (some r21))]) [] (aeL hmS hES (by rw[Jw.len wH];exact hdl)) ?_
 rintro v88 L88 ⟨zs,hzs,QZ⟩
 obtain⟨abR,abK,af5⟩:=QZ.form
 subst af5
 refine zD 4<|Ur qC.a.a.a.a (.tuple ⟨[(.slice abR (nJ zs).length abK),zI 0]⟩) [0,2] L88 (((cR.trans nz).trans rS).trans hs8) ⟨_,zs,rfl,Jw.perm wH hzs,QZ⟩
theorem aeK{a n:Int}(g:ro y=some (.cells ⟨[zI a,zI n]⟩ 122 (0,0))):eR zT 56 [zP y] ro (.tuple ⟨[zI (Mj a n),zI (OX n)]⟩):=ai6 a n▸aAD g
theorem ash{K:cm}(hK:du ro l K)(hV:kV K)(hp:p <K.ar.length)(hd:(d:Int) <K.days)(hh: -1≤h∧h <K.hs.length):EY zT 16 [.agg ⟨l⟩,zI (p:Int),zI h,zI (d:Int)] ro [] (fun r Y=>r= .tuple ⟨[zI (Mj (pY (fun t:aH=>decide ((t.at p).at d=h)) (iy K (allM K.ax.length))) ((iy K (allM K.ax.length)).length:Int)),zI (OX ((iy K (allM K.ax.length)).length:Int))]⟩∧Y=[]):=by
 have cz:=hK
 obtain⟨vS,vT,vP,vR,vE,fa,fc,rfl,hS,hT,hp,hr,he⟩:=hK
 have y3:=hp
 have Hx:=he
 have p6:=hr
 obtain⟨dh,ou,oh,cY,rfl,qa,nD,nC⟩:=hp
 obtain⟨dS,uY,uW,dM,rfl,uX,rX,rW⟩:=he
 have Xs:=hV.SE
 have Ew:=hV.days
 have qy:=hV.ax
 have hh3:=hV.h3
 refine BC aE [] [] bJ fun fr=>zD 2<|jn fun b4=>jn fun b5=>jn fun b6=>jn fun b7=>zD 2<|jf [2,1,0] ((b5,.cells ⟨[zI (p:Int)]⟩ 3 (0,0))::((b6,.cells ⟨[zI h]⟩ 3 (0,0))::[(b7,.cells ⟨[zI (d:Int)]⟩ 3 (0,0))])) fun yW cR fe=>jd 5 [0]<|tD (vs:=[.agg ⟨[vS,vT,.slice fa 0 fc,.slice dh K.ar.length cY,vR,zI K.days,zI K.stay,.slice dS K.ax.length dM]⟩,.func (.func 53) ⟨[]⟩ ⟨[zP b5,zP b6,zP b7]⟩]) [] (fun _ _ h=>h) (Az (f:=53) (fi:=[]) (ca:=[zP b5,zP b6,zP b7]) (cz.up cR) hV (by kernel_rfl) (fun aR Hb W u ls ps hs hI=>(aAE hI (hs _ _ (fe _ (.head _))) (hs _ _ (fe _ (.tail _ (.head _)))) (hs _ _ (fe _ (.tail _ (.tail _ (.head _))))) (by omega) (by omega)).mono fun _ _ h=>⟨_,h,azr (by omega) (by omega) (by omega)⟩)) ?_
 rintro _ Tq _ nz ⟨Hb,W,u,ls,ps,rfl,kS,rfl⟩
 have wH:=kS.Ab (allM K.ax.length)
 have AK:=wH.length_eq
 have Fi:=kS.d
 refine jg 0 []<|zD 16<|jn fun wK=>zD 4<|jn fun LI=>jd 1 [0]<|jf [0] [(LI,.cells ⟨[.func (.func 54) ⟨[zP wK]⟩ ⟨[]⟩]⟩ 123 (0,0))] fun ro7 rS FP=>zD 6<|jc (vs:=[zP Hb,.agg ⟨[.func (.func 55) ⟨[]⟩ ⟨[zP LI,zP b5,zP b7,zP b6]⟩]⟩]) [0] (xD (f:=55) (fi:=[]) (ca:=[zP LI,zP b5,zP b7,zP b6]) (Jn:=fun k Y=>Y=[(wK,.cells ⟨[zI (pY (fun t:aH=>decide ((t.at p).at d=h)) ((dY W.D ls (nN K) K.ar.length ps.length (allM K.ax.length)).take k)),zI (k:Int)]⟩ 122 (0,0))]) (kS.r.up rS) (by kernel_rfl) rfl (fun k x hx aR hs B hB=>by subst hB;have OL:=(List.getElem?_eq_some_iff.1 hx).1;have fN:=X4 (q:=(fun t:aH=>decide ((t.at p).at d=h))) (show k≤(dY W.D ls (nN K) K.ar.length ps.length (allM K.ax.length)).length by omega);exact(asi (hs _ _ (FP _ (.head _))) (hs _ _ (rS _ _ (nz _ _ (fe _ (.head _))))) (hs _ _ (rS _ _ (nz _ _ (fe _ (.tail _ (.tail _ (.head _))))))) (hs _ _ (rS _ _ (nz _ _ (fe _ (.tail _ (.head _)))))) (by omega) (by omega) fN (by have:=hV.n;omega)).mono fun _ _ h=>by rw[h.2,Ly hx];rfl) (by rw[AK];exact hV.n)) ?_
 rintro _ Y99 ⟨rfl,ry⟩
 simp only[List.take_length] at ry
 subst ry
 refine jg 0 [.b wK (.cells ⟨[zI (pY (fun t:aH=>decide ((t.at p).at d=h)) (dY W.D ls (nN K) K.ar.length ps.length (allM K.ax.length))),zI ((dY W.D ls (nN K) K.ar.length ps.length (allM K.ax.length)).length:Int)]⟩ 122 (0,0))]<|zD 3<|jp (vs:=[zP wK]) [0] [(wK,.cells ⟨[zI (pY (fun t:aH=>decide ((t.at p).at d=h)) (dY W.D ls (nN K) K.ar.length ps.length (allM K.ax.length))),zI ((dY W.D ls (nN K) K.ar.length ps.length (allM K.ax.length)).length:Int)]⟩ 122 (0,0))] (fun aV hs hZ=>aeK hZ.head)<|zD 6<|Ur qC.a.a.a (.tuple ⟨[zI (Mj (pY (fun t:aH=>decide ((t.at p).at d=h)) (dY W.D ls (nN K) K.ar.length ps.length (allM K.ax.length))) ((dY W.D ls (nN K) K.ar.length ps.length (allM K.ax.length)).length:Int)),zI (OX ((dY W.D ls (nN K) K.ar.length ps.length (allM K.ax.length)).length:Int))]⟩) [2] [] ((cR.trans nz).trans rS) ⟨by rw[DF wH,AK],rfl⟩
theorem ZE{K:cm}(hK:du ro l K)(hV:kV K)(hd:d <K.hs.length)(hp:p <K.ar.length)(hq:q <K.ar.length):EY zT 19 [.agg ⟨l⟩,zI (d:Int),zI (p:Int),zI (q:Int)] ro [] (fun r Y=>r= .tuple ⟨[zI (Mj (pY (fun t:aH=>JB K.days t p q (d:Int)) (iy K (allM K.ax.length))) ((iy K (allM K.ax.length)).length:Int)),zI (OX ((iy K (allM K.ax.length)).length:Int))]⟩∧Y=[]):=by
 have cz:=hK
 obtain⟨vS,vT,vP,vR,vE,fa,fc,rfl,hS,hT,hp,hr,he⟩:=hK
 have y3:=hp
 have Hx:=he
 have p6:=hr
 obtain⟨dh,ou,oh,cY,rfl,qa,nD,nC⟩:=hp
 obtain⟨dS,uY,uW,dM,rfl,uX,rX,rW⟩:=he
 have Xs:=hV.SE
 have Ew:=hV.days
 have qy:=hV.ax
 have hh3:=hV.h3
 refine BC aE [] [] bJ fun fr=>zD 2<|jn fun b4=>jn fun b5=>jn fun b6=>jn fun b7=>zD 2<|jf [2,1,0] ((b5,.cells ⟨[zI (d:Int)]⟩ 3 (0,0))::((b6,.cells ⟨[zI (p:Int)]⟩ 3 (0,0))::[(b7,.cells ⟨[zI (q:Int)]⟩ 3 (0,0))])) fun yW cR fe=>jd 5 [0]<|tD (vs:=[.agg ⟨[vS,vT,.slice fa 0 fc,.slice dh K.ar.length cY,vR,zI K.days,zI K.stay,.slice dS K.ax.length dM]⟩,.func (.func 64) ⟨[]⟩ ⟨[zP b5,zP b6,zP b7]⟩]) [] (fun _ _ h=>h) (Az (f:=64) (fi:=[]) (ca:=[zP b5,zP b6,zP b7]) (cz.up cR) hV (by kernel_rfl) (fun aR Hb W u ls ps hs hI=>(aAK hI (hs _ _ (fe _ (.head _))) (hs _ _ (fe _ (.tail _ (.head _)))) (hs _ _ (fe _ (.tail _ (.tail _ (.head _)))))).mono fun _ _ h=>⟨_,h,azr (by omega) (by omega) (by omega)⟩)) ?_
 rintro _ Tq _ nz ⟨Hb,W,u,ls,ps,rfl,kS,rfl⟩
 have wH:=kS.Ab (allM K.ax.length)
 have AK:=wH.length_eq
 have Fi:=kS.d
 refine jg 0 []<|zD 3<|jn fun Ba=>jd 13 [0]<|jn fun wK=>jf [1] [(Ba,.cells ⟨[zP Hb]⟩ 95 (0,0))] fun ro7 rS FP=>zD 3<|jl (b:=Ba) (off:=0) (m:=1) (vs:=[zP Hb]) 0 ⟨_,_,_,.inl (FP _ (.head _)),rfl⟩<|zD 2<|jc (vs:=[zP Hb,.agg ⟨[.func (.func 65) ⟨[]⟩ ⟨[zP Ba,zP b6,zP b5,zP b7,zP wK]⟩]⟩]) [0] (xD (f:=65) (fi:=[]) (ca:=[zP Ba,zP b6,zP b5,zP b7,zP wK]) (Jn:=fun k Y=>Y=[(wK,.cells ⟨[zI (pY (fun t:aH=>JB W.D t p q (d:Int)) ((dY W.D ls (nN K) K.ar.length ps.length (allM K.ax.length)).take k)),zI (k:Int)]⟩ 122 (0,0))]) (kS.r.up rS) (by kernel_rfl) rfl (fun k x hx aR hs B hB=>by subst hB;have OL:=(List.getElem?_eq_some_iff.1 hx).1;have fN:=X4 (q:=(fun t:aH=>JB W.D t p q (d:Int))) (show k≤(dY W.D ls (nN K) K.ar.length ps.length (allM K.ax.length)).length by omega);exact(aAL (kS.r.up (rS.trans hs)) (hs _ _ (FP _ (.head _))) (hs _ _ (rS _ _ (nz _ _ (fe _ (.tail _ (.head _)))))) (hs _ _ (rS _ _ (nz _ _ (fe _ (.head _))))) (hs _ _ (rS _ _ (nz _ _ (fe _ (.tail _ (.tail _ (.head _))))))) (by omega) (by omega) fN (by have:=hV.n;omega)).mono fun _ _ h=>by rw[h.2,Ly hx];rfl) (by rw[AK];exact hV.n)) ?_
 rintro _ Y99 ⟨rfl,ry⟩
 simp only[List.take_length] at ry
 subst ry
 refine jg 0 [.b wK (.cells ⟨[zI (pY (fun t:aH=>JB W.D t p q (d:Int)) (dY W.D ls (nN K) K.ar.length ps.length (allM K.ax.length))),zI ((dY W.D ls (nN K) K.ar.length ps.length (allM K.ax.length)).length:Int)]⟩ 122 (0,0))]<|zD 3<|jp (vs:=[zP wK]) [0] [(wK,.cells ⟨[zI (pY (fun t:aH=>JB W.D t p q (d:Int)) (dY W.D ls (nN K) K.ar.length ps.length (allM K.ax.length))),zI ((dY W.D ls (nN K) K.ar.length ps.length (allM K.ax.length)).length:Int)]⟩ 122 (0,0))] (fun aV hs hZ=>aeK hZ.head)<|zD 6<|Ur qC.a.a.a (.tuple ⟨[zI (Mj (pY (fun t:aH=>JB W.D t p q (d:Int)) (dY W.D ls (nN K) K.ar.length ps.length (allM K.ax.length))) ((dY W.D ls (nN K) K.ar.length ps.length (allM K.ax.length)).length:Int)),zI (OX ((dY W.D ls (nN K) K.ar.length ps.length (allM K.ax.length)).length:Int))]⟩) [2] [] ((cR.trans nz).trans rS) ⟨by rw[DF wH,AK,Fi],rfl⟩
theorem acB{s:Int×Int×Bool}{t:aH}:(bif decide ((c9 (fun y=>decide (h=y)) ((fS (t.at p)).take D.toNat) 0)≥0) then [(y,Obj.cells ⟨[zI (bif s.2.2 then min s.1 (c9 (fun y=>decide (h=y)) ((fS (t.at p)).take D.toNat) 0) else (c9 (fun y=>decide (h=y)) ((fS (t.at p)).take D.toNat) 0)),zI (bif s.2.2 then max s.2.1 (c9 (fun y=>decide (h=y)) ((fS (t.at p)).take D.toNat) 0) else (c9 (fun y=>decide (h=y)) ((fS (t.at p)).take D.toNat) 0)),.bool true]⟩ 126 (0,0))] else [(y,Obj.cells ⟨[zI s.1,zI s.2.1,.bool s.2.2]⟩ 126 (0,0))])=
 [(y,Obj.cells ⟨[zI (Eo (MA D p h) s t).1,zI (Eo (MA D p h) s t).2.1,.bool (Eo (MA D p h) s t).2.2]⟩ 126 (0,0))]:=by
 unfold Eo MA
 cases decide ((c9 (fun y=>decide (h=y)) ((fS (t.at p)).take D.toNat) 0)≥0)<;>rfl
theorem W8{K:cm}{lo:Int}(hK:du ro l K)(hV:kV K)(hp:p <K.ar.length)(tN:Qn (fun t:aH=>some (jB K.days (t.at p))) (iy K (allM K.ax.length))=(lo,hi,true)):EY zT 17 [.agg ⟨l⟩,zI (p:Int)] ro [] (fun r Y=>r= .tuple ⟨[.agg ⟨[zI lo,zI hi]⟩,zI 0]⟩∧Y=[]):=by
 have cz:=hK
 obtain⟨vS,vT,vP,vR,vE,fa,fc,rfl,hS,hT,hp,hr,he⟩:=hK
 have y3:=hp
 have Hx:=he
 have p6:=hr
 obtain⟨dh,ou,oh,cY,rfl,qa,nD,nC⟩:=hp
 obtain⟨dS,uY,uW,dM,rfl,uX,rX,rW⟩:=he
 have Xs:=hV.SE
 have Ew:=hV.days
 have qy:=hV.ax
 refine BC aE [] [] bJ fun fr=>zD 2<|jn fun b2=>jn fun b3=>jn fun b4=>zD 1<|jf [1] [(b3,.cells ⟨[zI (p:Int)]⟩ 3 (0,0))] fun yW cR fe=>jd 5 [1]<|tD (vs:=[.agg ⟨[vS,vT,.slice fa 0 fc,.slice dh K.ar.length cY,vR,zI K.days,zI K.stay,.slice dS K.ax.length dM]⟩,.func (.func 57) ⟨[]⟩ ⟨[zP b3]⟩]) [] (fun _ _ h=>h) (Az (f:=57) (fi:=[]) (ca:=[zP b3]) (cz.up cR) hV (by kernel_rfl) (fun aR Hb W u ls ps hs hI=>(aAG hI (hs _ _ (fe _ (.head _)))).mono fun _ _ h=>⟨_,h,azs (by omega)⟩)) ?_
 rintro _ Tq _ nz ⟨Hb,W,u,ls,ps,rfl,kS,rfl⟩
 have wH:=kS.Ab (allM K.ax.length)
 have AK:=wH.length_eq
 have Fi:=kS.d
 refine jg 0 []<|zD 3<|jn fun b6=>jd 13 [0]<|jn fun b8=>jf [1] [(b6,.cells ⟨[zP Hb]⟩ 95 (0,0))] fun ro7 rS FP=>zD 3<|jl (b:=b6) (off:=0) (m:=1) (vs:=[zP Hb]) 0 ⟨_,_,_,.inl (FP _ (.head _)),rfl⟩<|zD 2<|jc (vs:=[zP Hb,.agg ⟨[.func (.func 58) ⟨[]⟩ ⟨[zP b8,zP b6,zP b3]⟩]⟩]) [0] (xD (f:=58) (fi:=[]) (ca:=[zP b8,zP b6,zP b3]) (Jn:=fun k Y=>Y=[(b8,.cells ⟨[zI (Qn (fun t:aH=>some (jB W.D (t.at p))) ((dY W.D ls (nN K) K.ar.length ps.length (allM K.ax.length)).take k)).1,zI (Qn (fun t:aH=>some (jB W.D (t.at p))) ((dY W.D ls (nN K) K.ar.length ps.length (allM K.ax.length)).take k)).2.1,.bool (Qn (fun t:aH=>some (jB W.D (t.at p))) ((dY W.D ls (nN K) K.ar.length ps.length (allM K.ax.length)).take k)).2.2]⟩ 126 (0,0))]) (kS.r.up rS) (by kernel_rfl) rfl (fun k x hx aR hs B hB=>by subst hB;exact(ak1 (kS.r.up (rS.trans hs)) (hs _ _ (FP _ (.head _))) (hs _ _ (rS _ _ (nz _ _ (fe _ (.head _))))) (by omega)).mono fun _ _ h=>by rw[h.2,Qm hx];rfl) (by rw[AK];exact hV.n)) ?_
 rintro _ Y99 ⟨rfl,ry⟩
 simp only[List.take_length] at ry
 subst ry
 have hmt:Qn (fun t:aH=>some (jB W.D (t.at p))) (dY W.D ls (nN K) K.ar.length ps.length (allM K.ax.length))=(lo,hi,true):=by rw[Ql wH,Fi];exact tN
 rw[show Qn _ _=(lo,hi,true) from hmt]
 refine jg 0 [.b b8 (.cells ⟨[zI lo,zI hi,.bool true]⟩ 126 (0,0))]<|jd 21 [0,0,0,1]<|asK qC.a.a.a (.tuple ⟨[.agg ⟨[zI lo,zI hi]⟩,zI 0]⟩) [1] [3] [] ((cR.trans nz).trans rS) ⟨rfl,rfl⟩
theorem M9{K:cm}{lo:Int}(hK:du ro l K)(hV:kV K)(hp:p <K.ar.length)(hd:d <K.hs.length)(hT:0 <(iy K (allM K.ax.length)).length)(tN:Qn (MA K.days p (d:Int)) (iy K (allM K.ax.length))=(lo,hi,true)):EY zT 18 [.agg ⟨l⟩,zI (p:Int),zI (d:Int)] ro [] (fun r Y=>r= .tuple ⟨[.agg ⟨[zI lo,zI hi]⟩,zI 0]⟩∧Y=[]):=by
 have cz:=hK
 obtain⟨vS,vT,vP,vR,vE,fa,fc,rfl,hS,hT,hp,hr,he⟩:=hK
 have y3:=hp
 have Hx:=he
 have p6:=hr
 obtain⟨dh,ou,oh,cY,rfl,qa,nD,nC⟩:=hp
 obtain⟨dS,uY,uW,dM,rfl,uX,rX,rW⟩:=he
 have Xs:=hV.SE
 have Ew:=hV.days
 have qy:=hV.ax
 have hh3:=hV.h3
 refine BC aE [] [] bJ fun fr=>zD 2<|jn fun b3=>jn fun b4=>jn fun b5=>jn fun b6=>zD 1<|jf [2,1] ((b4,.cells ⟨[zI (p:Int)]⟩ 3 (0,0))::[(b5,.cells ⟨[zI (d:Int)]⟩ 3 (0,0))]) fun yW cR fe=>jd 5 [1]<|tD (vs:=[.agg ⟨[vS,vT,.slice fa 0 fc,.slice dh K.ar.length cY,vR,zI K.days,zI K.stay,.slice dS K.ax.length dM]⟩,.func (.func 61) ⟨[]⟩ ⟨[zP b4,zP b5]⟩]) [] (fun _ _ h=>h) (Az (f:=61) (fi:=[]) (ca:=[zP b4,zP b5]) (cz.up cR) hV (by kernel_rfl) (fun aR Hb W u ls ps hs hI=>(aAF hI (hs _ _ (fe _ (.head _))) (hs _ _ (fe _ (.tail _ (.head _))))).mono fun _ _ h=>⟨_,h,ake (by omega) (by omega)⟩)) ?_
 rintro _ Tq _ nz ⟨Hb,W,u,ls,ps,rfl,kS,rfl⟩
 have wH:=kS.Ab (allM K.ax.length)
 have AK:=wH.length_eq
 have Fi:=kS.d
 refine jg 0 []<|zD 3<|jn fun b8=>jd 13 [0]<|jn fun Ba=>jf [1] [(b8,.cells ⟨[zP Hb]⟩ 95 (0,0))] fun ro7 rS FP=>zD 3<|jl (b:=b8) (off:=0) (m:=1) (vs:=[zP Hb]) 0 ⟨_,_,_,.inl (FP _ (.head _)),rfl⟩<|zD 2<|jc (vs:=[zP Hb,.agg ⟨[.func (.func 62) ⟨[]⟩ ⟨[zP b4,zP b8,zP b5,zP Ba]⟩]⟩]) [0] (xD (f:=62) (fi:=[]) (ca:=[zP b4,zP b8,zP b5,zP Ba]) (Jn:=fun k Y=>Y=[(Ba,.cells ⟨[zI (Qn (MA W.D p (d:Int)) ((dY W.D ls (nN K) K.ar.length ps.length (allM K.ax.length)).take k)).1,zI (Qn (MA W.D p (d:Int)) ((dY W.D ls (nN K) K.ar.length ps.length (allM K.ax.length)).take k)).2.1,.bool (Qn (MA W.D p (d:Int)) ((dY W.D ls (nN K) K.ar.length ps.length (allM K.ax.length)).take k)).2.2]⟩ 126 (0,0))]) (kS.r.up rS) (by kernel_rfl) rfl (fun k x hx aR hs B hB=>by subst hB;exact(ak0 (kS.r.up (rS.trans hs)) (hs _ _ (rS _ _ (nz _ _ (fe _ (.head _))))) (hs _ _ (FP _ (.head _))) (hs _ _ (rS _ _ (nz _ _ (fe _ (.tail _ (.head _)))))) (by omega)).mono fun _ _ h=>by rw[h.2,Qm hx];exact acB) (by rw[AK];exact hV.n)) ?_
 rintro _ Y99 ⟨rfl,ry⟩
 simp only[List.take_length] at ry
 subst ry
 have hmt:Qn (MA W.D p (d:Int)) (dY W.D ls (nN K) K.ar.length ps.length (allM K.ax.length))=(lo,hi,true):=by rw[Ql wH,Fi];exact tN
 rw[show Qn _ _=(lo,hi,true) from hmt]
 refine jg 0 [.b Ba (.cells ⟨[zI lo,zI hi,.bool true]⟩ 126 (0,0))]<|zD 10<|zJ 26 (((dY W.D ls (nN K) K.ar.length ps.length (allM K.ax.length)).length:Int)=0) (fun h8=>?_) fun h8=>?_
 ·
  exfalso;omega
 refine jd 21 [0,0,0,1]<|asK qC.a.a.a (.tuple ⟨[.agg ⟨[zI lo,zI hi]⟩,zI 0]⟩) [1] [3] [] ((cR.trans nz).trans rS) ⟨rfl,rfl⟩
theorem aeJ{K:cm}(hK:du ro l K)(hV:kV K)(hT:0 <(iy K (allM K.ax.length)).length)(hp:p <K.ax.length)(Jw:aib (nN K) K.ar.length (p:Int) (iy K (allM K.ax.length)) ds)(hdl:ds.length≤12):EY zT 20 [.agg ⟨l⟩,zI (p:Int)] ro [] (fun r Y=>∃v zs,r= .tuple ⟨[v,zI 0]⟩∧zs.Perm ds∧aK v 1 3 dc (nJ zs) Y):=by
 have cz:=hK
 obtain⟨vS,vT,vP,vR,vE,fa,fc,rfl,hS,hT,hp,hr,he⟩:=hK
 have y3:=hp
 have Hx:=he
 have p6:=hr
 obtain⟨dh,ou,oh,cY,rfl,qa,nD,nC⟩:=hp
 obtain⟨dS,uY,uW,dM,rfl,uX,rX,rW⟩:=he
 have Xs:=hV.SE
 have Ew:=hV.days
 have qy:=hV.ax
 refine BC aE [] [] bJ fun fr=>zD 2<|jn fun b2=>jn fun b3=>zD 2<|jf [0] [(b3,.cells ⟨[zI (p:Int)]⟩ 3 (0,0))] fun yW cR fe=>jd 5 [0]<|tD (vs:=[.agg ⟨[vS,vT,.slice fa 0 fc,.slice dh K.ar.length cY,vR,zI K.days,zI K.stay,.slice dS K.ax.length dM]⟩,.func (.func 66) ⟨[]⟩ ⟨[zP b3]⟩]) [] (fun _ _ h=>h) (Az (f:=66) (fi:=[]) (ca:=[zP b3]) (cz.up cR) hV (by kernel_rfl) (fun aR Hb W u ls ps hs hI=>(aAC hI (hs _ _ (fe _ (.head _)))).mono fun _ _ h=>⟨_,h,azs (by omega)⟩)) ?_
 rintro _ Tq _ nz ⟨Hb,W,u,ls,ps,rfl,kS,rfl⟩
 have wH:=kS.Ab (allM K.ax.length)
 have AK:=wH.length_eq
 have Fi:=kS.d
 refine jg 0 []<|zD 3<|jn fun b6=>jd 13 [0]<|jmk vB fun r19 L19 atK=>jn fun b8=>jd 1 [0]<|jf [2,0] ((b6,.cells ⟨[zP Hb]⟩ 95 (0,0))::[(b8,.cells ⟨[(.map (some r19))]⟩ 109 (0,0))]) fun ro7 rS FP=>zD 3<|jl (b:=b6) (off:=0) (m:=1) (vs:=[zP Hb]) 0 ⟨_,_,_,.inl (FP _ (.head _)),rfl⟩<|zD 2<|jc (vs:=[zP Hb,.agg ⟨[.func (.func 67) ⟨[]⟩ ⟨[zP b6,zP b3,zP b8]⟩]⟩]) [0] (xD (f:=67) (fi:=[]) (ca:=[zP b6,zP b3,zP b8]) (Jn:=fun k Y=>fH r19 vB (JR (nN K) K.ar.length (p:Int) ((dY W.D ls (nN K) K.ar.length ps.length (allM K.ax.length)).take k)) Y) (kS.r.up rS) (by kernel_rfl) atK (fun k x hx aR hs B hB=>have hxm:=ab2 Xs.2 (zL hx);(asf (kS.r.up (rS.trans hs)) (hs _ _ (FP _ (.head _))) (hs _ _ (rS _ _ (nz _ _ (fe _ (.head _))))) (hs _ _ (FP _ (.tail _ (.head _)))) (by omega) hxm.1 hxm.2 hB).mono fun _ _ h=>by rw[SS hx];exact h.2) (by rw[AK];exact hV.n)) ?_
 rintro _ Y99 ⟨rfl,ry⟩
 simp only[List.take_length] at ry
 obtain⟨esS,ckS,rfl,hES⟩:=ry
 refine jg 0 [.b r19 (.map esS ckS)]<|zD 1<|jf [0] [(r19,.map esS ckS)] (fun ayD hs8 OM=>?_)
 have hmS:=OM _ (.head _)
 refine zD 7<|zJ 25 (((dY W.D ls (nN K) K.ar.length ps.length (allM K.ax.length)).length:Int)=0) (fun zb=>?_) fun zb=>?_
 ·
  exfalso;omega
 refine zD 4<|jl (b:=b8) (off:=0) (m:=1) (vs:=[(.map (some r19))]) 0 ⟨_,_,_,.inl (hs8 _ _ (FP _ (.tail _ (.head _)))),rfl⟩<|jc (vs:=[(.map (some r19))]) [] (aeL hmS hES (by have:=(Jw.perm wH (.refl _)).length_eq;simp at this;omega)) ?_
 rintro v88 L88 ⟨zs,hzs,QZ⟩
 obtain⟨abR,abK,af5⟩:=QZ.form
 subst af5
 refine zD 4<|Ur qC.a.a.a.a (.tuple ⟨[(.slice abR (nJ zs).length abK),zI 0]⟩) [0,2] L88 (((cR.trans nz).trans rS).trans hs8) ⟨_,zs,rfl,Jw.perm wH hzs,QZ⟩
def eqI:List Int→List Int→Bool
 | [],[]=>true
 |x::l,y::m=>decide (x=y)&&eqI l m
 |_,_=>false
theorem ahc:∀ {l m:List Int},¬l.length=m.length→eqI l m=false
 | [],[],h=>absurd rfl h
 | [],_::_,_=>rfl
 |_::_,[],_=>rfl
 |x::l,y::m,h=>by rw[eqI,ahc (l:=l) (m:=m) (by simpa using h),Bool.and_false]
theorem ahd{k:Nat}{y:Int}(hx:xs[k]?=some x) (hy:ys[k]?=some y):eqI (xs.drop k) (ys.drop k)=(decide (x=y)&&eqI (xs.drop (k+1)) (ys.drop (k+1))):=by rw[kP hx,kP hy];rfl
theorem amA{k:Nat}(hx:¬k <xs.length)(h:xs.length=ys.length):eqI (xs.drop k) (ys.drop k)=true:=by rw[kD hx,kD (by omega)];rfl
def uO:List Int→List Int→Int
 | [],[]=>0
 | [],_::_=> -1
 |_::_,[]=>1
 |x::xs,y::ys=>if r8 x y=0 then uO xs ys else r8 x y
theorem R6{k:Nat}{y:Int}(hx:xs[k]?=some x) (hy:ys[k]?=some y):uO (xs.drop k) (ys.drop k)=if r8 x y=0 then uO (xs.drop (k+1)) (ys.drop (k+1)) else r8 x y:=by rw[kP hx,kP hy];rfl
theorem aaF{k:Nat}(hx:xs[k]?=some x) (hy:¬k <ys.length):uO (xs.drop k) (ys.drop k)=1:=by rw[kP hx,kD hy];rfl
theorem Lz{k:Nat}(hx:¬k <xs.length):uO (xs.drop k) (ys.drop k)=if k <ys.length then-1 else 0:=by
 rw[kD hx]
 split
 ·rename_i h
  rw[List.drop_eq_getElem_cons h];rfl
 rename_i h
 rw[kD h];rfl
def mT(f:Int):Int:=([0,1,1,2,1,2,2,3,1,2,2,3,2,3,3,4,1,2,2,3,2,3,3,4,2,3,3,4,3,4,4,5]:List Int).getD f.toNat 0
def uj(t:Int→Bool)(b c:Int):Int:=bif decide (mT c>mT b) then b else bif decide (mT c=mT b)&&decide (uO (jD c 5) (jD b 5)≥0) then b else bif t c then c else b
def NI(t:Int→Bool)(n:Nat):Nat→Int
 |0=>allM n
 |c+1=>uj t (NI t n c) (c:Int)
def aaA(t:Int→Bool)(n:Nat):List Int:=jD (NI t n (2^n)) 5
theorem am8(h:n≤5):0≤allM n∧allM n <32:=by
 have:n=0∨n=1∨n=2∨n=3∨n=4∨n=5:=by omega
 rcases this with rfl|rfl|rfl|rfl|rfl|rfl<;>decide
theorem ajA(h:n≤5):eC .i64 1 (n:Int)=((2^n:Nat):Int)∧2^n≤32:=by
 have:n=0∨n=1∨n=2∨n=3∨n=4∨n=5:=by omega
 rcases this with rfl|rfl|rfl|rfl|rfl|rfl<;>exact⟨by decide,by decide⟩
theorem axy{c:Nat}(h:c <32):Value.int .u8 (IntKind.u8.wrap (c:Int))= .int .u8 (c:Int):=by
 rw[tY .u8 rfl _ (by omega) (by simp[IntKind.bits];omega)]
theorem aE1{w:Value}(hv:cD ro v 1 dc xs)(hw:cD ro w 1 dc ys)(hx:xs.length≤1000)(hy:ys.length≤1000):eR zT 15 [v,w] ro (.bool (eqI xs ys)):=by
 obtain⟨TH,qvb,qvo,IG,rfl,qvk,Zb,Za⟩:=hv
 obtain⟨E5,qwb,qwo,A2,rfl,qwk,TE,TD⟩:=hw
 refine zE<|zD 13<|js 10 (!decide ((xs.length:Int)=(ys.length:Int))) (fun h1=>?_) (fun h1=>?_)
 ·
  replace h1:=of_decide_eq_false (by simpa using h1)
  refine zD 6<|zX (.bool false) ⟨by rw[ahc (by omega)],rfl⟩
 replace h1:=of_decide_eq_true (by simpa using h1)
 refine zD 8<|fX [1,1,0,1,0,0] [] (fun(zz:Nat)=>[(0,.slice TH xs.length IG),(1,.slice E5 ys.length A2),(5,zI (zz:Int))]) (fun zz=>[]) (fun zz=>zz≤xs.length∧eqI xs ys=eqI (xs.drop zz) (ys.drop zz)) (fun zz=>xs.length-zz) 0 ⟨by omega,rfl⟩ [] ?_
 rintro k hI K1 cz rest
 refine zD 8<|zJ 14 ((k:Int) <(xs.length:Int)) (fun h2=>?_) fun h2=>?_
 ·
  refine zD 8 ?_
  obtain⟨rV,qw⟩:=zG xs k
  refine jq IG 1 Zb qw<|jl 0 (Za _ _ qw)<|zD 2 ?_
  obtain⟨rR,ox⟩:=zG ys k
  refine jq A2 1 TE ox<|jl 0 (TD _ _ ox)<|zD 2<|js 25 (!decide (rV=rR)) (fun h3=>?_) (fun h3=>?_)
  ·
   replace h3:=of_decide_eq_false (by simpa using h3)
   refine zD 6<|zX (.bool false) ⟨by rw[hI.2,ahd qw ox,decide_eq_false (by omega),Bool.false_and],rfl⟩
  replace h3:=of_decide_eq_true (by simpa using h3)
  refine zD 4<|zW ((k:Int)+1)<|zD 2<|zY cz (k+1) ⟨by omega,by rw[hI.2,ahd qw ox,decide_eq_true (by omega),Bool.true_and]⟩ []
 refine zD 7<|zX (.bool true) ⟨by rw[hI.2,amA (by omega) (by omega)],rfl⟩
theorem aM2{w:Value}(hv:cD ro v 1 dc xs)(hw:cD ro w 1 dc ys)(hx:xs.length≤1000)(hy:ys.length≤1000):eR zT 101 [v,w] ro (zI (uO xs ys)):=by
 obtain⟨TH,qvb,qvo,IG,rfl,qvk,Zb,Za⟩:=hv
 obtain⟨E5,qwb,qwo,A2,rfl,qwk,TE,TD⟩:=hw
 refine zE<|zD 12<|fX [1,0,1,0,0] [] (fun(zz:Nat)=>[(0,.slice TH xs.length IG),(1,.slice E5 ys.length A2),(9,.slice TH xs.length IG),(10,zI (xs.length:Int)),(11,zI (zz:Int))]) (fun zz=>[]) (fun zz=>(zz≤xs.length∧zz≤ys.length)∧uO xs ys=uO (xs.drop zz) (ys.drop zz)) (fun zz=>xs.length-zz) 0 ⟨by omega,rfl⟩ [] ?_
 rintro k hI K1 cz rest
 refine zD 5<|zJ 12 ((k:Int) <(xs.length:Int)) (fun h1=>?_) fun h1=>?_
 ·
  refine zD 7 ?_
  obtain⟨yj,gD⟩:=zG xs k
  refine jq IG 1 Zb gD<|jl 0 (Za _ _ gD)<|zD 11<|zJ 19 ((k:Int)≥(ys.length:Int)) (fun h2=>?_) fun h2=>?_
  ·
   refine zD 6<|zX (zI 1) ⟨by rw[hI.2,aaF gD (by omega)],rfl⟩
  refine zD 6 ?_
  obtain⟨YA,rZ⟩:=zG ys k
  refine jq A2 1 TE rZ<|jl 0 (TD _ _ rZ)<|zD 6<|jp (vs:=[zI yj,zI YA]) [] [] (fun aV hs hZ=>au7)<|zD 7<|js 28 (!decide ((r8 yj YA)=0)) (fun h3=>?_) (fun h3=>?_)
  ·
   replace h3:=of_decide_eq_false (by simpa using h3)
   refine zD 7<|zX (zI (r8 yj YA)) ⟨by rw[hI.2,R6 gD rZ,if_neg (by omega)],rfl⟩
  replace h3:=of_decide_eq_true (by simpa using h3)
  refine zD 3<|zW ((k:Int)+1)<|zD 2<|zY cz (k+1) ⟨by omega,by rw[hI.2,R6 gD rZ,if_pos (by omega)]⟩ []
 refine zD 11<|zJ 35 ((xs.length:Int) <(ys.length:Int)) (fun h4=>?_) fun h4=>?_
 ·
  refine zD 6<|zX (zI (-1)) ⟨by rw[hI.2,Lz (by omega),if_pos (by omega)],rfl⟩
 refine zD 7<|zX (zI 0) ⟨by rw[hI.2,Lz (by omega),if_neg (by omega)],rfl⟩
theorem asE:eR zT 100 [.int .u8 0] ro (zI 0):=by
 refine zE<|zD 12<|zX (zI 0) ⟨rfl,rfl⟩
theorem asD:eR zT 100 [.int .u8 1] ro (zI 1):=by
 refine zE<|zD 12<|zX (zI 1) ⟨rfl,rfl⟩
theorem asC:eR zT 100 [.int .u8 2] ro (zI 1):=by
 refine zE<|zD 12<|zX (zI 1) ⟨rfl,rfl⟩
theorem asB:eR zT 100 [.int .u8 3] ro (zI 2):=by
 refine zE<|zD 12<|zX (zI 2) ⟨rfl,rfl⟩
theorem asA:eR zT 100 [.int .u8 4] ro (zI 1):=by
 refine zE<|zD 12<|zX (zI 1) ⟨rfl,rfl⟩
theorem asz:eR zT 100 [.int .u8 5] ro (zI 2):=by
 refine zE<|zD 12<|zX (zI 2) ⟨rfl,rfl⟩
theorem asy:eR zT 100 [.int .u8 6] ro (zI 2):=by
 refine zE<|zD 12<|zX (zI 2) ⟨rfl,rfl⟩
theorem asx:eR zT 100 [.int .u8 7] ro (zI 3):=by
 refine zE<|zD 12<|zX (zI 3) ⟨rfl,rfl⟩
theorem asw:eR zT 100 [.int .u8 8] ro (zI 1):=by
 refine zE<|zD 12<|zX (zI 1) ⟨rfl,rfl⟩
theorem asv:eR zT 100 [.int .u8 9] ro (zI 2):=by
 refine zE<|zD 12<|zX (zI 2) ⟨rfl,rfl⟩
theorem alx:eR zT 100 [.int .u8 10] ro (zI 2):=by
 refine zE<|zD 12<|zX (zI 2) ⟨rfl,rfl⟩
theorem alw:eR zT 100 [.int .u8 11] ro (zI 3):=by
 refine zE<|zD 12<|zX (zI 3) ⟨rfl,rfl⟩
theorem alv:eR zT 100 [.int .u8 12] ro (zI 2):=by
 refine zE<|zD 12<|zX (zI 2) ⟨rfl,rfl⟩
theorem alu:eR zT 100 [.int .u8 13] ro (zI 3):=by
 refine zE<|zD 12<|zX (zI 3) ⟨rfl,rfl⟩
theorem als:eR zT 100 [.int .u8 14] ro (zI 3):=by
 refine zE<|zD 12<|zX (zI 3) ⟨rfl,rfl⟩
theorem alr:eR zT 100 [.int .u8 15] ro (zI 4):=by
 refine zE<|zD 12<|zX (zI 4) ⟨rfl,rfl⟩
theorem alq:eR zT 100 [.int .u8 16] ro (zI 1):=by
 refine zE<|zD 12<|zX (zI 1) ⟨rfl,rfl⟩
theorem alp:eR zT 100 [.int .u8 17] ro (zI 2):=by
 refine zE<|zD 12<|zX (zI 2) ⟨rfl,rfl⟩
theorem alo:eR zT 100 [.int .u8 18] ro (zI 2):=by
 refine zE<|zD 12<|zX (zI 2) ⟨rfl,rfl⟩
theorem aln:eR zT 100 [.int .u8 19] ro (zI 3):=by
 refine zE<|zD 12<|zX (zI 3) ⟨rfl,rfl⟩
theorem alm:eR zT 100 [.int .u8 20] ro (zI 2):=by
 refine zE<|zD 12<|zX (zI 2) ⟨rfl,rfl⟩
theorem alk:eR zT 100 [.int .u8 21] ro (zI 3):=by
 refine zE<|zD 12<|zX (zI 3) ⟨rfl,rfl⟩
theorem alj:eR zT 100 [.int .u8 22] ro (zI 3):=by
 refine zE<|zD 12<|zX (zI 3) ⟨rfl,rfl⟩
theorem ali:eR zT 100 [.int .u8 23] ro (zI 4):=by
 refine zE<|zD 12<|zX (zI 4) ⟨rfl,rfl⟩
theorem alh:eR zT 100 [.int .u8 24] ro (zI 2):=by
 refine zE<|zD 12<|zX (zI 2) ⟨rfl,rfl⟩
theorem alg:eR zT 100 [.int .u8 25] ro (zI 3):=by
 refine zE<|zD 12<|zX (zI 3) ⟨rfl,rfl⟩
theorem alf:eR zT 100 [.int .u8 26] ro (zI 3):=by
 refine zE<|zD 12<|zX (zI 3) ⟨rfl,rfl⟩
theorem ale:eR zT 100 [.int .u8 27] ro (zI 4):=by
 refine zE<|zD 12<|zX (zI 4) ⟨rfl,rfl⟩
theorem ald:eR zT 100 [.int .u8 28] ro (zI 3):=by
 refine zE<|zD 12<|zX (zI 3) ⟨rfl,rfl⟩
theorem alc:eR zT 100 [.int .u8 29] ro (zI 4):=by
 refine zE<|zD 12<|zX (zI 4) ⟨rfl,rfl⟩
theorem alb:eR zT 100 [.int .u8 30] ro (zI 4):=by
 refine zE<|zD 12<|zX (zI 4) ⟨rfl,rfl⟩
theorem ala:eR zT 100 [.int .u8 31] ro (zI 5):=by
 refine zE<|zD 12<|zX (zI 5) ⟨rfl,rfl⟩
theorem aot{f:Int}(h:0≤f∧f <32):eR zT 100 [.int .u8 f] ro (zI (mT f)):=by
 obtain rfl|rfl|rfl|rfl|rfl|rfl|rfl|rfl|rfl|rfl|rfl|rfl|rfl|rfl|rfl|rfl|rfl|rfl|rfl|rfl|rfl|rfl|rfl|rfl|rfl|rfl|rfl|rfl|rfl|rfl|rfl|rfl:=(by omega:f=0∨f=1∨f=2∨f=3∨f=4∨f=5∨f=6∨f=7∨f=8∨f=9∨f=10∨f=11∨f=12∨f=13∨f=14∨f=15∨f=16∨f=17∨f=18∨f=19∨f=20∨f=21∨f=22∨f=23∨f=24∨f=25∨f=26∨f=27∨f=28∨f=29∨f=30∨f=31)
 ·exact asE
 ·exact asD
 ·exact asC
 ·exact asB
 ·exact asA
 ·exact asz
 ·exact asy
 ·exact asx
 ·exact asw
 ·exact asv
 ·exact alx
 ·exact alw
 ·exact alv
 ·exact alu
 ·exact als
 ·exact alr
 ·exact alq
 ·exact alp
 ·exact alo
 ·exact aln
 ·exact alm
 ·exact alk
 ·exact alj
 ·exact ali
 ·exact alh
 ·exact alg
 ·exact alf
 ·exact ale
 ·exact ald
 ·exact alc
 ·exact alb
 exact ala
theorem Xa{f:FuncId}{tst:Int→Bool}{W:fy}{ls:List aO}{ps:List bY}{mk:Nat→Nat→aO→Int}(cq:wm ro Hb W u np ne ls ps mk)(Co:A8 zT f=true)(ht:∀aR c,Sub ro aR→dX zT f (fi++[.int .u8 c]++ca) aR [] (fun r Y=>r= .bool (tst c)∧Y=[])):dX zT 69 [zP Hb,(.func (.func f) ⟨fi⟩ ⟨ca⟩)] ro [] (fun r Y=>∃L,aK r 1 3 dc (aaA tst ne) L∧Y=L):=by
 obtain⟨xs,Ha,qR⟩:=cq.pe
 obtain⟨me,PJ,PH,lQ,sD,PI,OC,OB⟩:=qR
 obtain⟨es,pP,jb⟩:=cq.e
 obtain⟨dS,uY,uW,dM,qy,uX,rX,rW⟩:=jb
 obtain⟨cV,nn,nk,cU,hle,pG,jR,lh⟩:=cq.l
 obtain⟨dh,ou,oh,cY,qT,qa,nD,nC⟩:=cq.p
 have hH:ro Hb=some (.cells ⟨[W.a0,W.a1,W.a2,.slice me xs.length lQ,W.a4,zI W.D,zI W.S,.slice dS es.length dM,(.slice W.ha W.H W.ek),.slice cV ls.length cU,.slice dh ps.length cY]⟩ 105 (0,0)):=by rw[←sD,←qy,←hle,←qT];exact cq.h
 have Nn:=cq.n3
 have ON:=cq.e5
 have A5:=cq.ll
 have xb:=cq.pl
 have Rm:=cq.d
 have hN:=ajA (show es.length≤5 by omega)
 have hA:=am8 (show ne≤5 by omega)
 refine Uq aE [] [] bJ<|zD 8<|jp (vs:=[zP Hb]) [] [] (fun aV hs hZ=>zl (cq.up hs))<|zD 11<|jl (b:=Hb) (off:=0) (m:=11) (vs:=[W.a0,W.a1,W.a2,.slice me xs.length lQ,W.a4,zI W.D,zI W.S,.slice dS es.length dM,(.slice W.ha W.H W.ek),.slice cV ls.length cU,.slice dh ps.length cY]) 7 ⟨_,_,_,.inl hH,rfl⟩<|zD 1<|jsh (k:= .i64) (k':= .i64) (a:=1) (b:=(es.length:Int)) 3 (by omega)<|zD 3<|fX [1,0,1,1,0,1,0,0] [] (fun(zz:Nat×Int)=>[(1,(.func (.func f) ⟨fi⟩ ⟨ca⟩)),(4,zS),(5,.int .u8 zz.2),(18,zI (eC .i64 1 (es.length:Int))),(19,zI (zz.1:Int))]) (fun zz=>[]) (fun zz=>zz.1≤2^es.length∧(0≤zz.2∧zz.2 <32)∧zz.2=NI tst ne zz.1) (fun zz=>2^es.length-zz.1) (⟨0,(allM ne)⟩) ⟨Nat.zero_le _,hA,rfl⟩ [] ?_
 rintro⟨c,b⟩ hI K1 cz rest
 dsimp only at hI
 refine zD 5<|zJ 20 ((c:Int) <(eC .i64 1 (es.length:Int))) (fun h1=>?_) fun h1=>?_
 ·
  refine zD 16<|jw 7 (.int .u8 (c:Int)) (axy (by omega))<|zD 2<|jp (vs:=[.int .u8 (c:Int)]) [] [] (fun aV hs hZ=>aot (by omega))<|zD 1<|jp (vs:=[.int .u8 b]) [] [] (fun aV hs hZ=>aot (by omega))<|zD 10<|js 31 (decide ((mT (c:Int))>(mT b))) (fun h2=>?_) (fun h2=>?_)
  ·
   have w5:=h2
   replace w5:=of_decide_eq_true w5
   refine zD 22<|zW ((c:Int)+1)<|zD 2<|zF cz (⟨c+1,b⟩) ⟨by dsimp only;omega,by dsimp only;rw[NI,←hI.2.2];exact(show uj tst b (c:Int)=_ by rw[uj,decide_eq_true (p:=mT (c:Int)>mT b) (by omega)];rfl).symm⟩ []
  have w5:=h2
  replace w5:=of_decide_eq_false w5
  refine zD 4<|js 35 (decide ((mT (c:Int))=(mT b))) (fun h3=>?_) (fun h3=>?_)
  ·
   have vK:=h3
   replace vK:=of_decide_eq_true vK
   refine zD 1<|jc (vs:=[.int .u8 (c:Int)]) [] (Uo (f:=(c:Int))) ?_
   rintro v37 L37 aCm
   obtain⟨aJu,aJa,aPg⟩:=aCm.form
   subst aPg
   refine zD 1<|jc (vs:=[.int .u8 b]) [] (Uo (f:=b)) ?_
   rintro v39 L39 aCk
   obtain⟨O4,O0,Nq⟩:=aCk.form
   subst Nq
   refine jp (vs:=[(.slice aJu (jD (c:Int) 5).length aJa),(.slice O4 (jD b 5).length O0)]) [1,0] (L37++L39) (fun aV hs hZ=>aM2 (aCm.n9 hZ.left) (aCk.n9 hZ.right) (by have:=C9 (c:Int) 5;omega) (by have:=C9 b 5;omega)) ?_
   refine zD 4<|js 44 (decide ((uO (jD (c:Int) 5) (jD b 5))≥0)) (fun h4=>?_) (fun h4=>?_)
   ·
    have Jz:=h4
    replace Jz:=of_decide_eq_true Jz
    refine zD 9<|zW ((c:Int)+1)<|zD 2<|zF cz (⟨c+1,b⟩) ⟨by dsimp only;omega,by dsimp only;rw[NI,←hI.2.2];exact(show uj tst b (c:Int)=_ by rw[uj,decide_eq_false (p:=mT (c:Int)>mT b) (by omega),decide_eq_true (p:=mT (c:Int)=mT b) (by omega),decide_eq_true (p:=uO (jD (c:Int) 5) (jD b 5)≥0) (by omega)];rfl).symm⟩ []
   have Jz:=h4
   replace Jz:=of_decide_eq_false Jz
   refine zD 2<|jcF (vs:=fi++[Value.int .u8 (c:Int)]++ca) [] Co (ht _ _ (Sub.refl _)) ?_
   rintro _ _ ⟨rfl,rfl⟩
   refine jg 0 []<|zD 3<|js 49 (!(tst (c:Int))) (fun h5=>?_) (fun h5=>?_)
   ·
    try simp only[zB] at h5
    refine zD 3<|zW ((c:Int)+1)<|zD 2<|zF cz (⟨c+1,b⟩) ⟨by dsimp only;omega,by dsimp only;rw[NI,←hI.2.2];exact(show uj tst b (c:Int)=_ by rw[uj,decide_eq_false (p:=mT (c:Int)>mT b) (by omega),decide_eq_true (p:=mT (c:Int)=mT b) (by omega),decide_eq_false (p:=uO (jD (c:Int) 5) (jD b 5)≥0) (by omega),show tst (c:Int)=false from by assumption];rfl).symm⟩ []
   try simp only[zB] at h5
   refine zD 7<|zW ((c:Int)+1)<|zD 2<|zF cz (⟨c+1,(c:Int)⟩) ⟨by dsimp only;omega,by dsimp only;rw[NI,←hI.2.2];exact(show uj tst b (c:Int)=_ by rw[uj,decide_eq_false (p:=mT (c:Int)>mT b) (by omega),decide_eq_true (p:=mT (c:Int)=mT b) (by omega),decide_eq_false (p:=uO (jD (c:Int) 5) (jD b 5)≥0) (by omega),show tst (c:Int)=true from by assumption];rfl).symm⟩ []
  have vK:=h3
  replace vK:=of_decide_eq_false vK
  refine zD 11<|jcF (vs:=fi++[Value.int .u8 (c:Int)]++ca) [] Co (ht _ _ (Sub.refl _)) ?_
  rintro _ _ ⟨rfl,rfl⟩
  refine jg 0 []<|zD 3<|js 49 (!(tst (c:Int))) (fun h6=>?_) (fun h6=>?_)
  ·
   try simp only[zB] at h6
   refine zD 3<|zW ((c:Int)+1)<|zD 2<|zF cz (⟨c+1,b⟩) ⟨by dsimp only;omega,by dsimp only;rw[NI,←hI.2.2];exact(show uj tst b (c:Int)=_ by rw[uj,decide_eq_false (p:=mT (c:Int)>mT b) (by omega),decide_eq_false (p:=mT (c:Int)=mT b) (by omega),show tst (c:Int)=false from by assumption];rfl).symm⟩ []
  try simp only[zB] at h6
  refine zD 7<|zW ((c:Int)+1)<|zD 2<|zF cz (⟨c+1,(c:Int)⟩) ⟨by dsimp only;omega,by dsimp only;rw[NI,←hI.2.2];exact(show uj tst b (c:Int)=_ by rw[uj,decide_eq_false (p:=mT (c:Int)>mT b) (by omega),decide_eq_false (p:=mT (c:Int)=mT b) (by omega),show tst (c:Int)=true from by assumption];rfl).symm⟩ []
 refine zD 5<|jc (vs:=[.int .u8 b]) [] (Uo (f:=b)) ?_
 rintro v53 L53 aCi
 obtain⟨aJp,aI5,aPb⟩:=aCi.form
 subst aPb
 refine zD 3<|jrM Ze ((.slice aJp (jD b 5).length aI5)) [] [] [0] L53 (Sub.refl _) ⟨_,by rw[aaA,←pP,show 2^es.length=c by omega,pP,←hI.2.2];exact aCi,rfl⟩
def ajh(K:cm)(c:Int):Bool:= !(iy K (sC .u8 (allM K.ax.length) c)).isEmpty
def ab0(K:cm)(c:Int):Bool:=(iy K c).isEmpty
theorem qK.emp{K:cm}{W:fy}{ls:List aO}{ps:List bY}(h:qK ro Hb K W u ls ps)(need:Int):(dY W.D ls (nN K) K.ar.length ps.length need).isEmpty=(iy K need).isEmpty:=(h.Ab need).isEmpty_eq
theorem akW{K:cm}{W:fy}{ls:List aO}{ps:List bY}{c:Int}(hI:qK ro Hb K W u ls ps)(g1:ro b1=some (.cells ⟨[zP Hb]⟩ 95 (0,0))):dX zT 70 [.int .u8 c,zP b1] ro [] (fun r Y=>r= .bool (ajh K c)∧Y=[]):=by
 refine zE<|zD 6<|jl (b:=b1) (off:=0) (m:=1) (vs:=[zP Hb]) 0 ⟨_,_,_,.inl g1,rfl⟩<|jl (b:=b1) (off:=0) (m:=1) (vs:=[zP Hb]) 0 ⟨_,_,_,.inl g1,rfl⟩<|zD 1<|jp (vs:=[zP Hb]) [] [] (fun aV hs hZ=>zl (hI.r.up hs))<|zD 1<|dV 5 fun tc tj sI=>jc (vs:=[zP Hb,.int .u8 (sC .u8 (allM K.ax.length) c)]) [] (Es (need:=(sC .u8 (allM K.ax.length) c)) hI.r) ?_
 rintro _ _ ⟨rfl,rfl⟩
 rw[hI.emp (sC .u8 (allM K.ax.length) c)]
 refine jg 0 []<|iv sI []<|zD 3<|zX (.bool (!(iy K (sC .u8 (allM K.ax.length) c)).isEmpty)) ⟨rfl,rfl⟩
theorem ak3{K:cm}{W:fy}{ls:List aO}{ps:List bY}{c:Int}(hI:qK ro Hb K W u ls ps)(g1:ro b1=some (.cells ⟨[zP Hb]⟩ 95 (0,0))):dX zT 73 [.int .u8 c,zP b1] ro [] (fun r Y=>r= .bool (ab0 K c)∧Y=[]):=by
 refine zE<|zD 6<|jl (b:=b1) (off:=0) (m:=1) (vs:=[zP Hb]) 0 ⟨_,_,_,.inl g1,rfl⟩<|zD 1<|jc (vs:=[zP Hb,.int .u8 c]) [] (Es (need:=c) hI.r) ?_
 rintro _ _ ⟨rfl,rfl⟩
 rw[hI.emp c]
 refine jg 0 []<|zD 4<|zX (.bool (!(!(iy K c).isEmpty))) ⟨by rw[ab0,Bool.not_not],rfl⟩
theorem M7{K:cm}(hK:du ro l K)(hV:kV K):EY zT 21 [.agg ⟨l⟩] ro [] (fun r Y=>∃v,r= .tuple ⟨[v,zI 0]⟩∧aK v 1 3 dc (aaA (ajh K) K.ax.length) Y):=by
 have cz:=hK
 obtain⟨vS,vT,vP,vR,vE,fa,fc,rfl,hS,hT,hp,hr,he⟩:=hK
 have y3:=hp
 have Hx:=he
 have p6:=hr
 obtain⟨dh,ou,oh,cY,rfl,qa,nD,nC⟩:=hp
 obtain⟨dS,uY,uW,dM,rfl,uX,rX,rW⟩:=he
 have Xs:=hV.SE
 have Ew:=hV.days
 have qy:=hV.ax
 refine BC aE [] [] bJ fun fr=>zD 2<|jn fun b1=>jd 6 [0]<|tD (vs:=[.agg ⟨[vS,vT,.slice fa 0 fc,.slice dh K.ar.length cY,vR,zI K.days,zI K.stay,.slice dS K.ax.length dM]⟩]) [] (fun _ _ h=>h) (tC cz hV) ?_
 rintro _ aV _ cR ⟨Hb,W,u,ls,ps,rfl,kS,rfl⟩
 have wH:=kS.Ab (allM K.ax.length)
 have AK:=wH.length_eq
 refine jg 0 []<|zD 3<|jn fun b4=>jd 2 [0]<|jf [0] [(b4,.cells ⟨[zP Hb]⟩ 95 (0,0))] fun Tq ql Fe=>zD 11<|jl (b:=b4) (off:=0) (m:=1) (vs:=[zP Hb]) 0 ⟨_,_,_,.inl (Fe _ (.head _)),rfl⟩<|zD 1<|jc (vs:=[zP Hb,.func (.func 70) ⟨[]⟩ ⟨[zP b4]⟩]) [] (Xa (f:=70) (fi:=[]) (ca:=[zP b4]) (tst:=(ajh K)) (kS.r.up ql) (by kernel_rfl) (fun aR c hs=>akW (kS.up (ql.trans hs)) (hs _ _ (Fe _ (.head _))))) ?_
 rintro v77 L77 ⟨_,afF,rfl⟩
 obtain⟨aqB,aqw,auc⟩:=afF.form
 subst auc
 refine zD 4<|Ur qC.a.a (.tuple ⟨[(.slice aqB (aaA (ajh K) K.ax.length).length aqw),zI 0]⟩) [0,2] L77 (cR.trans ql) ⟨_,rfl,afF⟩
theorem ak2{K:cm}(hK:du ro l K)(hV:kV K)(hTr:(iy K (allM K.ax.length)).isEmpty=false):EY zT 22 [.agg ⟨l⟩] ro [] (fun r Y=>r= .tuple ⟨[zS,zI 11]⟩∧Y=[]):=by
 have cz:=hK
 obtain⟨vS,vT,vP,vR,vE,fa,fc,rfl,hS,hT,hp,hr,he⟩:=hK
 have y3:=hp
 have Hx:=he
 have p6:=hr
 obtain⟨dh,ou,oh,cY,rfl,qa,nD,nC⟩:=hp
 obtain⟨dS,uY,uW,dM,rfl,uX,rX,rW⟩:=he
 have Xs:=hV.SE
 have Ew:=hV.days
 have qy:=hV.ax
 refine BC aE [] [] bJ fun fr=>zD 2<|jn fun b1=>jd 6 [0]<|tD (vs:=[.agg ⟨[vS,vT,.slice fa 0 fc,.slice dh K.ar.length cY,vR,zI K.days,zI K.stay,.slice dS K.ax.length dM]⟩]) [] (fun _ _ h=>h) (tC cz hV) ?_
 rintro _ aV _ cR ⟨Hb,W,u,ls,ps,rfl,kS,rfl⟩
 have wH:=kS.Ab (allM K.ax.length)
 have AK:=wH.length_eq
 refine jg 0 []<|zD 3<|jn fun b4=>jd 2 [0]<|jf [0] [(b4,.cells ⟨[zP Hb]⟩ 95 (0,0))] fun Tq ql Fe=>zD 12<|jl (b:=b4) (off:=0) (m:=1) (vs:=[zP Hb]) 0 ⟨_,_,_,.inl (Fe _ (.head _)),rfl⟩<|jl (b:=b4) (off:=0) (m:=1) (vs:=[zP Hb]) 0 ⟨_,_,_,.inl (Fe _ (.head _)),rfl⟩<|jp (vs:=[zP Hb]) [] [] (fun aV hs hZ=>zl ((kS.r.up ql).up hs))<|dV 3 fun tc tj sI=>jc (vs:=[zP Hb,.int .u8 (allM K.ax.length)]) [] (Es (need:=(allM K.ax.length)) (kS.r.up ql)) ?_
 rintro _ _ ⟨rfl,rfl⟩
 rw[kS.emp (allM K.ax.length),hTr]
 refine jg 0 []<|iv sI [0,1]<|zD 8<|Ur qC.a.a (.tuple ⟨[zS,zI 11]⟩) [1] [] (cR.trans ql) ⟨rfl,rfl⟩
theorem Xc{K:cm}(hK:du ro l K)(hV:kV K)(hTr:(iy K (allM K.ax.length)).isEmpty=true):EY zT 22 [.agg ⟨l⟩] ro [] (fun r Y=>∃v,r= .tuple ⟨[v,zI 0]⟩∧aK v 1 3 dc (aaA (ab0 K) K.ax.length) Y):=by
 have cz:=hK
 obtain⟨vS,vT,vP,vR,vE,fa,fc,rfl,hS,hT,hp,hr,he⟩:=hK
 have y3:=hp
 have Hx:=he
 have p6:=hr
 obtain⟨dh,ou,oh,cY,rfl,qa,nD,nC⟩:=hp
 obtain⟨dS,uY,uW,dM,rfl,uX,rX,rW⟩:=he
 have Xs:=hV.SE
 have Ew:=hV.days
 have qy:=hV.ax
 refine BC aE [] [] bJ fun fr=>zD 2<|jn fun b1=>jd 6 [0]<|tD (vs:=[.agg ⟨[vS,vT,.slice fa 0 fc,.slice dh K.ar.length cY,vR,zI K.days,zI K.stay,.slice dS K.ax.length dM]⟩]) [] (fun _ _ h=>h) (tC cz hV) ?_
 rintro _ aV _ cR ⟨Hb,W,u,ls,ps,rfl,kS,rfl⟩
 have wH:=kS.Ab (allM K.ax.length)
 have AK:=wH.length_eq
 refine jg 0 []<|zD 3<|jn fun b4=>jd 2 [0]<|jf [0] [(b4,.cells ⟨[zP Hb]⟩ 95 (0,0))] fun Tq ql Fe=>zD 12<|jl (b:=b4) (off:=0) (m:=1) (vs:=[zP Hb]) 0 ⟨_,_,_,.inl (Fe _ (.head _)),rfl⟩<|jl (b:=b4) (off:=0) (m:=1) (vs:=[zP Hb]) 0 ⟨_,_,_,.inl (Fe _ (.head _)),rfl⟩<|jp (vs:=[zP Hb]) [] [] (fun aV hs hZ=>zl ((kS.r.up ql).up hs))<|dV 3 fun tc tj sI=>jc (vs:=[zP Hb,.int .u8 (allM K.ax.length)]) [] (Es (need:=(allM K.ax.length)) (kS.r.up ql)) ?_
 rintro _ _ ⟨rfl,rfl⟩
 rw[kS.emp (allM K.ax.length),hTr]
 refine jg 0 []<|iv sI [0,1]<|zD 5<|jl (b:=b4) (off:=0) (m:=1) (vs:=[zP Hb]) 0 ⟨_,_,_,.inl (Fe _ (.head _)),rfl⟩<|zD 1<|jc (vs:=[zP Hb,.func (.func 73) ⟨[]⟩ ⟨[zP b4]⟩]) [] (Xa (f:=73) (fi:=[]) (ca:=[zP b4]) (tst:=(ab0 K)) (kS.r.up ql) (by kernel_rfl) (fun aR c hs=>ak3 (kS.up (ql.trans hs)) (hs _ _ (Fe _ (.head _))))) ?_
 rintro v77 L77 ⟨_,afF,rfl⟩
 obtain⟨aqB,aqw,auc⟩:=afF.form
 subst auc
 refine zD 4<|Ur qC.a.a (.tuple ⟨[(.slice aqB (aaA (ab0 K) K.ax.length).length aqw),zI 0]⟩) [0,2] L77 (cR.trans ql) ⟨_,rfl,afF⟩
theorem ap9{xs:List ByteArray}(hl:cD ro v 1 kT xs)(hn:xs.length≤1000):dX zT 105 [v] ro [] (fun r Y=>aK r 1 9 kT xs Y):=by
 obtain⟨cV,nn,nk,cU,rfl,pG,jR,lh⟩:=hl
 refine zE<|zD 8<|jsn 29 (a:=cV) (l:=xs.length) (c:=cU)<|zD 1<|js 4 (cV.isNone) (fun h1=>?_) (fun h1=>?_)
 ·
  refine zD 6<|zX (zS) (by rw[iA jR (by assumption)];exact aK.nil _ _ _)
 refine zD 4<|jn fun b5=>zD 1<|wD (sz:=1) (ps:=[]) (qs:=xs) (enc:=kT) (w:= .slice cV xs.length cU) [0] [] [] (j7 (b:=b5) (T:=9)) (fun s he _=>⟨cV,nn,nk,cU,rfl,jR,fun i p hp=>(lh i p hp).ext he⟩) (fun p _=>aP rfl) (by simp<;>omega) (fun v7 L7 fL=>?_)
 rw[List.nil_append] at fL
 obtain⟨O2,OY,Jv⟩:=fL.form
 subst Jv
 refine zD 3<|zR ((.slice O2 (xs).length OY)) [] [0] L7 fL
theorem ai2{xs:List dK}(hl:cD ro v 2 kB xs)(hn:xs.length≤1000):dX zT 106 [v] ro [] (fun r Y=>aK r 2 165 kB xs Y):=by
 obtain⟨cV,nn,nk,cU,rfl,pG,jR,lh⟩:=hl
 refine zE<|zD 8<|jsn 30 (a:=cV) (l:=xs.length) (c:=cU)<|zD 1<|js 4 (cV.isNone) (fun h1=>?_) (fun h1=>?_)
 ·
  refine zD 6<|zX (zS) (by rw[iA jR (by assumption)];exact aK.nil _ _ _)
 refine zD 4<|jn fun b5=>zD 1<|wD (sz:=2) (ps:=[]) (qs:=xs) (enc:=kB) (w:= .slice cV xs.length cU) [0] [] [] (j7 (b:=b5) (T:=165)) (fun s he _=>⟨cV,nn,nk,cU,rfl,jR,fun i p hp=>(lh i p hp).ext he⟩) (fun p _=>aP rfl) (by simp<;>omega) (fun v7 L7 fL=>?_)
 rw[List.nil_append] at fL
 obtain⟨O2,OY,Jv⟩:=fL.form
 subst Jv
 refine zD 3<|zR ((.slice O2 (xs).length OY)) [] [0] L7 fL
theorem aqb{xs:List bH}(hl:cD ro v 7 nf xs)(hn:xs.length≤1000):dX zT 107 [v] ro [] (fun r Y=>aK r 7 43 nf xs Y):=by
 obtain⟨cV,nn,nk,cU,rfl,pG,jR,lh⟩:=hl
 refine zE<|zD 8<|jsn 31 (a:=cV) (l:=xs.length) (c:=cU)<|zD 1<|js 4 (cV.isNone) (fun h1=>?_) (fun h1=>?_)
 ·
  refine zD 6<|zX (zS) (by rw[iA jR (by assumption)];exact aK.nil _ _ _)
 refine zD 4<|jn fun b5=>zD 1<|wD (sz:=7) (ps:=[]) (qs:=xs) (enc:=nf) (w:= .slice cV xs.length cU) [0] [] [] (j7 (b:=b5) (T:=43)) (fun s he _=>⟨cV,nn,nk,cU,rfl,jR,fun i p hp=>(lh i p hp).ext he⟩) (fun p _=>aP rfl) (by simp<;>omega) (fun v7 L7 fL=>?_)
 rw[List.nil_append] at fL
 obtain⟨O2,OY,Jv⟩:=fL.form
 subst Jv
 refine zD 3<|zR ((.slice O2 (xs).length OY)) [] [0] L7 fL
theorem aqc{xs:List cE}(hl:cD ro v 7 nU xs)(hn:xs.length≤1000):dX zT 110 [v] ro [] (fun r Y=>aK r 7 92 nU xs Y):=by
 obtain⟨cV,nn,nk,cU,rfl,pG,jR,lh⟩:=hl
 refine zE<|zD 8<|jsn 80 (a:=cV) (l:=xs.length) (c:=cU)<|zD 1<|js 4 (cV.isNone) (fun h1=>?_) (fun h1=>?_)
 ·
  refine zD 6<|zX (zS) (by rw[iA jR (by assumption)];exact aK.nil _ _ _)
 refine zD 4<|jn fun b5=>zD 1<|wD (sz:=7) (ps:=[]) (qs:=xs) (enc:=nU) (w:= .slice cV xs.length cU) [0] [] [] (j7 (b:=b5) (T:=92)) (fun s he _=>⟨cV,nn,nk,cU,rfl,jR,fun i p hp=>(lh i p hp).ext he⟩) (fun p _=>aP rfl) (by simp<;>omega) (fun v7 L7 fL=>?_)
 rw[List.nil_append] at fL
 obtain⟨O2,OY,Jv⟩:=fL.form
 subst Jv
 refine zD 3<|zR ((.slice O2 (xs).length OY)) [] [0] L7 fL
theorem aqa{xs:List iD}(hl:cD ro v 6 rG xs)(hn:xs.length≤1000):dX zT 108 [v] ro [] (fun r Y=>aK r 6 189 rG xs Y):=by
 obtain⟨cV,nn,nk,cU,rfl,pG,jR,lh⟩:=hl
 refine zE<|zD 8<|jsn 26 (a:=cV) (l:=xs.length) (c:=cU)<|zD 1<|js 4 (cV.isNone) (fun h1=>?_) (fun h1=>?_)
 ·
  refine zD 6<|zX (zS) (by rw[iA jR (by assumption)];exact aK.nil _ _ _)
 refine zD 4<|jn fun b5=>zD 1<|wD (sz:=6) (ps:=[]) (qs:=xs) (enc:=rG) (w:= .slice cV xs.length cU) [0] [] [] (j7 (b:=b5) (T:=189)) (fun s he _=>⟨cV,nn,nk,cU,rfl,jR,fun i p hp=>(lh i p hp).ext he⟩) (fun p _=>aP rfl) (by simp<;>omega) (fun v7 L7 fL=>?_)
 rw[List.nil_append] at fL
 obtain⟨O2,OY,Jv⟩:=fL.form
 subst Jv
 refine zD 3<|zR ((.slice O2 (xs).length OY)) [] [0] L7 fL
end Go.L
