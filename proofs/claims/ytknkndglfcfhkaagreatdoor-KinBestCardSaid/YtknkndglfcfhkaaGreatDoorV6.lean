/- Part 6 of the proof. -/
import Derived.Test.YtknkndglfcfhkaaGreatDoorV5
import Derived.KernelRfl
import Derived.Lib.UnsafeStr
import Derived.Test.YtknkndglfcfhkaaGreatDoorProg
set_option maxRecDepth 100000
set_option linter.all false
namespace Go.L
open Go Go.Conc
variable {ro py aG:Nat→Option Obj} {xs al ys:List Int} {Φ:Value→Cells→Prop} {α β κ:Type} {vd vm vc vh s0 s1 s2 t0 t1 ru vb va:Value} {X fr:Cells} {o:Option JS} {args:List Value} {f:FuncId} {P:Program} {d i k n b ck nc sz nh r bC it:Nat} {seen:List Nat} {R:Ending→St→Prop} {E:TypeId} {many lo hi af gone new:Int} {nm:ByteArray} {ag:Bool}
def uQ(r ck:Nat)(seen:List Nat):Obj:= .mapIter (some r) ck ⟨seen⟩ ck
def cN(es:Array MapEntry)(seen:List Nat):List MapEntry:=es.toList.filter fun e=> !seen.contains e.born
theorem Cv(es:Array MapEntry):cN es []=es.toList:=by simp[cN]
theorem abe{es:Array MapEntry}{e:MapEntry}:e∈cN es (seen++[b])↔e∈cN es seen∧e.born≠b:=by
 simp only[cN,List.mem_filter,Bool.not_eq_true',List.contains_eq_mem,List.mem_append,List.mem_singleton,decide_eq_false_iff_not,not_or,and_assoc]
theorem G3{es:Array MapEntry}{e:MapEntry}(h:e∈cN es seen):(cN es (seen++[e.born])).length <(cN es seen).length:=by
 have:cN es (seen++[e.born])=(cN es seen).filter fun x=> !decide (x.born=e.born):=by
  simp only[cN,List.filter_filter]
  refine List.filter_congr fun x _=>?_
  simp only[List.contains_eq_mem,List.mem_append,List.mem_singleton,Bool.decide_or,Bool.not_or]
  rw[Bool.and_comm]
 rw[this]
 exact List.length_filter_lt_length_iff_exists.2 ⟨e,h,by simp⟩
def mrV(P:Program)(n:Nat)(p:Oper)(e:Env):Option Value:=match p.op with
 | .range T x=>match a8 P T with
  |some ⟨.map _ _,_,_,_⟩=>bn n e x
  |_=>none
 |_=>none
def nmV(n:Nat)(p:Oper)(e:Env):Option Value:=match p.op with
 | .next x false=>bn n e x
 |_=>none
def enV(n:Nat)(p:Oper)(e:Env):Option Value:=match p.op with
 | .entry x=>bn n e x
 |_=>none
theorem Kt{s:St}{Q:β→St→Prop}{E:Halt→St→Prop}{k:Nat→Sem β}(hn:0 <n)(h:∀j,j <n→bP P (k j) s Q E):bP P (choose (.mapNext n) >>= k) s Q E:=by
 show (if (Question.mapNext n).forced=true then _ else _)
 split
 ·exact h 0 hn
 exact fun q=>h _ (Nat.mod_lt _ hn)
section
variable {X:Cx} {o:Option JS}
theorem jmR{es:Array MapEntry}(hm:X.ro r=some (.map es ck))(hj:∀b,J X (mY [] (.pointer (some ⟨b,0,none⟩)) [(b,uQ r ck [])] o))(hv:eW X.n (mrV X.P X.n) o=some (.map (some r)):=by kernel_rfl)(hB:dM [] o=some []:=by kernel_rfl):J X o:=by
 refine jS (Φ:=fun v L'=>∃b,v= .pointer (some ⟨b,0,none⟩)∧L'=[(b,uQ r ck [])]) [] [] hv hB (fun p e hf=>?_) (fun v L' qj=>?_)
 ·unfold mrV at hf
  split at hf<;>try (cases hf;done)
  rename_i T x ay
  split at hf<;>try (cases hf;done)
  rename_i dK
  obtain⟨bC,tf⟩:=av dK
  refine⟨by rw[ay];simp,fun R Q E hQ=>?_⟩
  simp only[execOp,ay,Instr.range,aa,aZ tf,aF hf]
  refine cI (.inl hm) rfl rfl ?_
  simp only[aa,ae,og]
  intro b hb
  exact hQ _ _ ⟨b,rfl,rfl⟩
 obtain⟨b,rfl,rfl⟩:=qj
 exact hj b
theorem jmN{kv:κ→Value}{F:List (κ×Value)}{es:Array MapEntry}(i:Nat)(hm:X.ro r=some (.map es ck))(hE:tC kv F es ck)
 (hT:∀k v e,(k,v)∈F→e∈cN es seen→e.key=kv k→e.val=v→J X (mY [i] (.tuple ⟨[.bool true,kv k,v]⟩) [(it,uQ r ck (seen++[e.born]))] o))
 (hF:cN es seen=[]→J X (mY [i] (.tuple ⟨[.bool false]⟩) [(it,uQ r ck seen)] o))
 (hv:eW X.n (nmV X.n) o=some (.pointer (some ⟨it,0,none⟩)):=by kernel_rfl)(hB:dM [i] o=some [(it,uQ r ck seen)]:=by kernel_rfl):J X o:=by
 refine jS (Φ:=fun v L'=>(∃e,e∈cN es seen∧v= .tuple ⟨[.bool true,e.key,e.val]⟩∧L'=[(it,uQ r ck (seen++[e.born]))])∨(cN es seen=[]∧v= .tuple ⟨[.bool false]⟩∧L'=[(it,uQ r ck seen)])) [i] _ hv hB (fun p e hf=>?_) (fun v L' qj=>?_)
 ·unfold nmV at hf
  split at hf<;>try (cases hf;done)
  rename_i x ay
  refine⟨by rw[ay];simp,fun R Q E hQ=>?_⟩
  simp only[execOp,ay,Instr.next,aa,aF hf]
  have hs:(⟨X.ro,[(it,uQ r ck seen)]++R⟩:St).rw=[]++(it,uQ r ck seen)::R:=rfl
  refine cI (o:=uQ r ck seen) (.inr (by rw[hs];exact fw)) rfl rfl ?_
  simp only[uQ,aa]
  refine cI (.inl hm) rfl rfl ?_
  simp only[aa]
  have hb:=hE.2.2
  have bV:¬((!(⟨seen⟩:Array Nat).isEmpty&& !es.isEmpty&&es.all (·.born≥ck))=true):=by
   intro h
   simp only[Bool.and_eq_true,Bool.not_eq_true',Array.all_eq_true,decide_eq_true_eq] at h
   obtain⟨⟨_,h1⟩,h2⟩:=h
   have u6:0 <es.size:=by
    rcases Nat.eq_zero_or_pos es.size with h0|h0
    ·simp[Array.isEmpty,h0] at h1
    exact h0
   have:=h2 0 u6
   have:=hb es[0] (by simp)
   omega
  rw[if_neg bV]
  have yj:(es.filter fun e=> !(⟨seen⟩:Array Nat).contains e.born)=⟨cN es seen⟩:=by
   rcases es with ⟨l⟩
   simp[cN]
  have hold:((⟨cN es seen⟩:Array MapEntry).filter fun e=>decide (e.born <ck))=⟨cN es seen⟩:=by
   have:(cN es seen).filter (fun e=>decide (e.born <ck))=cN es seen:=List.filter_eq_self.2 fun e he=>decide_eq_true (hb e (List.mem_filter.1 he).1)
   simp[this]
  have tj:((⟨cN es seen⟩:Array MapEntry).filter fun e=>decide (e.born≥ck))=⟨[]⟩:=by
   have:(cN es seen).filter (fun e=>decide (e.born≥ck))=[]:=List.filter_eq_nil_iff.2 fun e he=>by
    have:=hb e (List.mem_filter.1 he).1
    simp only[decide_eq_true_eq];omega
   simp[this]
  simp only[yj,hold,tj]
  cases hl:cN es seen with
  |nil=>
   simp only[List.isEmpty_toArray,List.isEmpty_nil,if_true]
   refine Kt (by simp) fun j hj=>?_
   have hc:(#[(none:Option MapEntry)]++((⟨[]⟩:Array MapEntry)++⟨[]⟩).map some)[j]?=some none:=by
    simp at hj
    subst hj;simp
   show bP X.P ((match (#[(none:Option MapEntry)]++((⟨[]⟩:Array MapEntry)++⟨[]⟩).map some)[j]? with|some (some e)=>_|some none=>_|none=>_) >>= fun v=>pure (Next.value v)) _ _ _
   rw[hc]
   exact hQ _ _ (.inr ⟨hl,rfl,rfl⟩)
  |cons e0 l=>
   have hem:(⟨e0::l⟩:Array MapEntry).isEmpty=false:=by simp
   simp only[hem,Bool.false_eq_true,if_false]
   have HQ:(#[]++((⟨e0::l⟩:Array MapEntry)++⟨[]⟩).map some:Array (Option MapEntry))=⟨(e0::l).map some⟩:=by simp
   rw[HQ]
   refine Kt (by simp) fun k cO=>?_
   have cO:k <(e0::l).length:=by simpa using cO
   have hk:(⟨(e0::l).map some⟩:Array (Option MapEntry))[k]?=some (some (e0::l)[k]):=by
    rw[List.getElem?_toArray,List.getElem?_map,List.getElem?_eq_getElem cO];rfl
   show bP X.P ((match (⟨(e0::l).map some⟩:Array (Option MapEntry))[k]? with|some (some e)=>_|some none=>_|none=>_) >>= fun v=>pure (Next.value v)) _ _ _
   rw[hk]
   simp only[aa]
   have mU:(⟨X.ro,[(it,Obj.mapIter (some r) ck ⟨seen⟩ ck)]++R⟩:St).rw=[]++(it,Obj.mapIter (some r) ck ⟨seen⟩ ck)::R:=rfl
   refine eo (o:= .mapIter (some r) ck ((⟨seen⟩:Array Nat).push (e0::l)[k].born) ck) rfl mU rfl ?_
   have hp:(⟨seen⟩:Array Nat).push (e0::l)[k].born=⟨seen++[(e0::l)[k].born]⟩:=by simp
   rw[hp]
   have:=hQ (.tuple ⟨[.bool true,(e0::l)[k].key,(e0::l)[k].val]⟩) [(it,uQ r ck (seen++[(e0::l)[k].born]))] (.inl ⟨_,by rw[hl];exact List.getElem_mem cO,rfl,rfl⟩)
   exact this
 rcases qj with ⟨e,he,rfl,rfl⟩| ⟨h1,rfl,rfl⟩
 ·have:(e.key,e.val)∈F.map (fun x=>(kv x.1,x.2)):=by
   rw[←hE.1];exact List.mem_map_of_mem (f:=fun e:MapEntry=>(e.key,e.val)) (List.mem_filter.1 he).1
  obtain⟨⟨k,v⟩,h1,h2⟩:=List.mem_map.1 this
  simp only[Prod.mk.injEq] at h2
  have:=hT k v e h1 he h2.1.symm h2.2.symm
  rwa[h2.1,h2.2] at this
 exact hF h1
theorem jmE{kv:κ→Value}{F:List (κ×Value)}{es:Array MapEntry}{e:MapEntry}{k:κ}{v:Value}(i:Nat)(hm:X.ro r=some (.map es ck))(hE:tC kv F es ck)(he:e∈cN es seen)(hk:e.key=kv k)(hvl:e.val=v)
 (hj:J X (mY [i] (.tuple ⟨[kv k,v]⟩) [(it,uQ r ck (seen++[e.born]))] o))
 (hv:eW X.n (enV X.n) o=some (.pointer (some ⟨it,0,none⟩)):=by kernel_rfl)(hB:dM [i] o=some [(it,uQ r ck (seen++[e.born]))]:=by kernel_rfl):J X o:=by
 refine jS (Φ:=fun w L'=>w= .tuple ⟨[kv k,v]⟩∧L'=[(it,uQ r ck (seen++[e.born]))]) [i] _ hv hB (fun p en hf=>?_) (fun w L' qj=>?_)
 ·unfold enV at hf
  split at hf<;>try (cases hf;done)
  rename_i x ay
  refine⟨by rw[ay];simp,fun R Q E hQ=>?_⟩
  simp only[execOp,ay,Instr.entry,aa,aF hf]
  have hs:(⟨X.ro,[(it,uQ r ck (seen++[e.born]))]++R⟩:St).rw=[]++(it,uQ r ck (seen++[e.born]))::R:=rfl
  refine cI (o:=uQ r ck (seen++[e.born])) (.inr (by rw[hs];exact fw)) rfl rfl ?_
  have sa:(⟨seen++[e.born]⟩:Array Nat).back?=some e.born:=by simp[Array.back?]
  simp only[uQ,sa,aa]
  refine cI (.inl hm) rfl rfl ?_
  have hfe:es.find? (fun x=>x.born==e.born)=some e:=by
   rcases es with ⟨l⟩
   have hel:e∈l:=(List.mem_filter.1 he).1
   have lZ:(l.map (·.born)).Nodup:=hE.2.1
   simp only[List.find?_toArray]
   clear hm hE he hj hv hB hs hQ
   induction l with
   |nil=>cases hel
   |cons y l ih=>
    simp only[List.map_cons,List.nodup_cons,List.mem_map,not_exists,not_and] at lZ
    rcases List.mem_cons.1 hel with rfl|h
    ·simp
    have:y.born≠e.born:=fun h2=>lZ.1 e h h2.symm
    rw[List.find?_cons_of_neg (by simpa using this)]
    exact ih h lZ.2
  simp only[bne_self_eq_false,Bool.false_eq_true,if_false,hfe,ae,aa]
  exact hQ _ _ ⟨by rw[hk,hvl],rfl⟩
 obtain⟨rfl,rfl⟩:=qj
 exact hj
end
theorem UT{kv:κ→Value}{F:List (κ×Value)}{es:Array MapEntry}(hE:tC kv F es ck){e x:MapEntry}(he:e∈cN es seen)(hx:x∈cN es seen):x=e∨x∈cN es (seen++[e.born]):=by
 by_cases h:x.born=e.born
 ·left
  have lZ:=hE.2.1
  have h1:=(List.mem_filter.1 he).1
  have h2:=(List.mem_filter.1 hx).1
  generalize es.toList=l at lZ h1 h2
  induction l with
  |nil=>cases h1
  |cons y l ih=>
   simp only[List.map_cons,List.nodup_cons,List.mem_map,not_exists,not_and] at lZ
   rcases List.mem_cons.1 h1 with k1|k1
   ·rcases List.mem_cons.1 h2 with k2|k2
    ·rw[k1,k2]
    exact absurd (by rw[h,k1]) (lZ.1 x k2)
   rcases List.mem_cons.1 h2 with k2|k2
   ·exact absurd (by rw[←h,k2]) (lZ.1 e k1)
   exact ih lZ.2 k1 k2
 exact .inr (abe.2 ⟨hx,h⟩)
def msV(P:Program)(n:Nat)(p:Oper)(e:Env):Option (TypeId×List Value):=match p.op with
 | .makeSlice T x y=>match a8 P T with
  |some ⟨.slice E,_,_,_⟩=>match a8 P E with
   |some te=>match bn n e x,bn n e y with
    |some (.int .i64 a),some (.int .i64 b)=>bif (decide (a=2)&&decide (b=2))&&(Nat.beq te.size 1&&Nat.ble (tJ P E) 65536) then some (E,te.zero) else none
    |_,_=>none
   |none=>none
  |_=>none
 |_=>none
theorem jmS{X:Cx}{z:Value}(hj:∀b,J X (mY [] (.slice (some ⟨b,0,none⟩) 2 2) [(b,.cells ⟨[z,z]⟩ E (0,0))] o))(hv:eW X.n (msV X.P X.n) o=some (E,[z]):=by kernel_rfl)(hB:dM [] o=some []:=by kernel_rfl):J X o:=by
 refine jS (Φ:=fun v L'=>∃b,v= .slice (some ⟨b,0,none⟩) 2 2∧L'=[(b,.cells ⟨[z,z]⟩ E (0,0))]) [] [] hv hB (fun p e hf=>?_) (fun v L' qj=>?_)
 ·unfold msV at hf
  split at hf<;>try (cases hf;done)
  rename_i T x y ay
  split at hf<;>try (cases hf;done)
  rename_i E' _ _ _ dK
  split at hf<;>try (cases hf;done)
  rename_i te uj
  split at hf<;>try (cases hf;done)
  rename_i a b hx hy
  cases hc:((decide (a=2)&&decide (b=2))&&(Nat.beq te.size 1&&Nat.ble (tJ X.P E') 65536)) with
  |false=>rw[hc] at hf;cases hf
  |true=>
   rw[hc] at hf
   simp only[cond_true,Option.some.injEq,Prod.mk.injEq] at hf
   obtain⟨rfl,hz⟩:=hf
   simp only[Bool.and_eq_true,decide_eq_true_eq,Nat.beq_eq,Nat.ble_eq] at hc
   obtain⟨⟨rfl,rfl⟩,u6,hby⟩:=hc
   obtain⟨byT,tf⟩:=av dK
   obtain⟨bC,jN⟩:=av uj
   obtain⟨i,hi,hi1,RP,hi3⟩:=jN.info
   have aoR:bC≤65536:=by simp only[tJ,hi] at hby;omega
   have axS:¬((bC:Int)*2>2^48):=by omega
   have w2:IntKind.i64.wrap 2=2:=ko 2 (by omega)
   have iJ:(Pp [z] te.agg).cells=⟨[z]⟩:=by rw[←hz];exact dY jN
   have HQ:((Array.range ((2:Int).toNat*1)).map fun x=>(⟨[z]⟩:Array Value)[x % (⟨[z]⟩:Array Value).size]!)=⟨[z,z]⟩:=by apply Array.ext';simp[Nat.mod_one,List.range,List.range.loop]
   refine⟨by rw[ay];simp,fun R Q E hQ=>?_⟩
   simp only[execOp,ay,Instr.makeSlice,aF hx,aF hy,asInt,asIntOf,aa,aZ tf,ae,ny hi,RP,w2,axS,show ¬((2:Int) <0) by omega,show ¬((2:Int)>2) by omega,decide_false,Bool.or_self,Bool.false_eq_true,if_false]
   refine sJ ?_
   simp only[aa,cg jN,u6,show ¬((2:Int).toNat*1=0) by decide,if_false,jU jN,ae,hz,iJ,HQ,jo]
   intro b hb
   exact hQ _ _ ⟨b,rfl,rfl⟩
 obtain⟨b,rfl,rfl⟩:=qj
 exact hj b
def apH(body:Code):Option JS→Option (JS×Nat)
 |some ⟨.fin .normal,e,.b c oc:: .b b (.loop r)::w,kn⟩=>match r.state with
  | .ready=>some (⟨.code body [],e,.b c oc:: .b b (.loop {r with state:= .busy})::w,kn⟩,b)
  |_=>none
 |_=>none
theorem aE0{X:Cx}{bl:Nat}{body:Code}(h:J (X.re bl ro Φ) (EP (apH body o)))(h1:Ud (apH body o)=some bl:=by kernel_rfl):J (X.rd bl ro Φ body) o:=by
 unfold apH at h h1
 split at h<;>try (unfold EP at h;exact h.elim)
 rename_i e c oc b r w kn
 split at h<;>try (unfold EP at h;exact h.elim)
 rename_i bV
 unfold Ud at h1
 unfold EP at h
 simp only[bV,Option.some.injEq] at h1
 subst h1
 intro bX
 have hw:=h bX
 simp only[JP,Cx.rd,IP,Dg]
 refine⟨[(c,oc)],r,den w,by rw[iG,iG];rfl,bV,?_⟩
 simp only[JP,iG] at hw
 exact hw
theorem aEX{hm:P.follows .mixedOrders=true}(own:List Sg)(kn:Cells)(hk:Knows ro kn)(h:J (XM P hm f ro R) (jC P f args own kn)):Fn (CP P) P f ⟨args⟩ ⟨ro,den own⟩ R:=by
 unfold jC at h
 split at h<;>try exact h.elim
 rename_i fn hf
 split at h<;>try exact h.elim
 rename_i c hc
 cases hl:Nat.ble args.length fn.ntmps with
 |false=>rw[hl] at h;exact h.elim
 |true=>
  rw[hl] at h
  have uR:qA P f=fn:=by simp only[qA,hf]
  have:=h hk
  simp only[JP,XM,KQ,uR] at this
  refine Mo eQ hf hc ?_
  have he:=kL args fn.ntmps (Nat.le_of_ble_eq_true hl)
  rw[←he] at this
  exact this
section
variable {X:Cx} {o:Option JS}
theorem aO7{uA:List Nat}(hq:QM X R uA)(v:Value)(pm hs ps:List Nat)(Y:Cells)(fB:Sub py X.ro)(hR:R (.returned v) ⟨py,Y⟩)(h0:dM pm o=some (mk uA):=by kernel_rfl)(h1:qU (iu X.P X.n X.fn hs (C5 pm o))=some v:=by kernel_rfl)(h2:Pm (iu X.P X.n X.fn hs (C5 pm o))=Pj (iu X.P X.n X.fn hs (C5 pm o)):=by kernel_rfl)(h3:dM ps (C5 pm o)=some Y:=by kernel_rfl)(h4:zm o=true:=by kernel_rfl):J X o:=by
 obtain⟨ex,e,w,kn,rfl,hex⟩:=tv h4
 simp only[C5,iu] at h1 h2 h3
 cases hr:B5 X.P X.n e (dD pm 0 w) kn.c hs (qA X.P X.fn).results.toList with
 |none=>simp only[hr,qU] at h1;cases h1
 |some x=>
  rcases x with ⟨vs,q⟩
  simp only[hr,qU,Option.some.injEq,Pm,Pj] at h1 h2
  intro bX
  have r5:=tO bX hr (ma h2)
  have hp:=bJ h3
  have DN:=Qf (s0:=⟨py,Y⟩) (R:=R) hex r5 h1 (dJ hp fB) hR
  have ht:bP X.P (results (qA X.P X.fn) (A X.n e X.D).tmps) ⟨X.ro,den (dD pm 0 w)⟩ (fun v s'=>∃s0,s0.le s'∧R (.returned v) s0) (fun _ _=>False):=by
   rcases hex with rfl|rfl<;>exact DN.2
  show X.Q ex (A X.n e X.D) ⟨X.ro,den w⟩
  rw[hq.q]
  have hm:∃uA rest,(A X.n e X.D).defers=uA.map ee∧(den w).Perm (mk uA++rest)∧bP X.P (results (qA X.P X.fn) (A X.n e X.D).tmps) ⟨X.ro,rest⟩ (fun v s'=>∃s0,s0.le s'∧R (.returned v) s0) (fun _ _=>False):=⟨uA,_,hq.d,bJ h0,ht⟩
  rcases hex with rfl|rfl<;>exact hm
end
attribute [irreducible] mrV nmV enV uQ msV apH
def rnM(P:Program):Sem α→List Nat→Cells→List (Nat×Nat)→Option (α×Cells×List (Nat×Nat))
 | .pure a,_,B,q=>some (a,B,q)
 | .load m a k,h::hs,B,q=>match m,a.spot,B[h]? with
  | .plain,none,some (b,.cells c _ _)=>match c[a.off]? with
   |some v=>rnM P (k v) hs B ((a.block,b)::q)
   |none=>none
  |_,_,_=>none
 | .shape r k,h::hs,B,q=>match B[h]? with
  |some (b,o)=>rnM P (k (Obj.shapeOf o)) hs B ((r,b)::q)
  |none=>none
 | .program k,hs,B,q=>rnM P (k P) hs B q
 |_,_,_,_=>none
theorem atS:∀(m:Sem α) {hs:List Nat} {B B':Cells} {q q':List (Nat×Nat)} {v:α},rnM P m hs B q=some (v,B',q')→(∀p∈q',p.1=p.2)→
 (∀p∈q,p∈q')∧B'=B∧∀(s:St) (Q:α→St→Prop) (E:Halt→St→Prop),(∀x∈B,s.has x.1 x.2)→Q v s→bP P m s Q E:=by
 intro m
 induction m with
 |pure a=>intro hs B B' q q' v h _;simp only[rnM,Option.some.injEq,Prod.mk.injEq] at h;obtain⟨rfl,rfl,rfl⟩:=h;exact⟨fun _ h=>h,rfl,fun _ _ _ _ h=>h⟩
 |load m a k ih=>
  intro hs B B' q q' v h hq
  cases hs with
  |nil=>cases h
  |cons j hs=>
   unfold rnM at h
   split at h<;>try (cases h;done)
   rename_i b c t fz O9 hB
   split at h<;>try (cases h;done)
   rename_i u hu
   obtain⟨h1,h2,h3⟩:=ih _ h hq
   have zh:a.block=b:=hq _ (h1 _ List.mem_cons_self)
   refine⟨fun p hp=>h1 p (List.mem_cons_of_mem _ hp),h2,fun s Q E hs hQ=>⟨rfl,O9,c,t,fz,u,?_,hu,h3 s Q E hs hQ⟩⟩
   rw[zh];exact hs _ (List.mem_of_getElem? hB)
 |shape r k ih=>
  intro hs B B' q q' v h hq
  cases hs with
  |nil=>cases h
  |cons j hs=>
   simp only[rnM] at h
   split at h<;>try (cases h;done)
   rename_i b o hB
   obtain⟨h1,h2,h3⟩:=ih _ h hq
   have zh:r=b:=hq _ (h1 _ List.mem_cons_self)
   refine⟨fun p hp=>h1 p (List.mem_cons_of_mem _ hp),h2,fun s Q E hs hQ=>⟨o,?_,h3 s Q E hs hQ⟩⟩
   rw[zh];exact hs _ (List.mem_of_getElem? hB)
 |program k ih=>
  intro hs B B' q q' v h hq
  simp only[rnM] at h
  exact ih _ h hq
 |store=>intro hs B B' q q' v h hq;cases hs<;>cases h
 |new=>intro hs B B' q q' v h hq;cases hs<;>cases h
 |freeze=>intro hs B B' q q' v h hq;cases hs<;>cases h
 |frozen=>intro hs B B' q q' v h hq;cases hs<;>cases h
 |getObj=>intro hs B B' q q' v h hq;cases hs<;>cases h
 |setObj=>intro hs B B' q q' v h hq;cases hs<;>cases h
 |choose=>intro hs B B' q q' v h hq;cases hs<;>cases h
 |sys=>intro hs B B' q q' v h hq;cases hs<;>cases h
 |mark=>intro hs B B' q q' v h hq;cases hs<;>cases h
 |halt=>intro hs B B' q q' v h hq;cases hs<;>cases h
def aek:Op→Option (List Operand)
 | .call ⟨.builtin _,xs,_⟩=>some xs.toList
 |op=>GA op
theorem Qc{o:Oper}{xs:List Operand}(h:aek o.op=some xs){f g:Operand→Value}(hfg:∀x∈xs,f x=g x):execOp f o=execOp g o:=by
 unfold aek at h
 split at h
 ·rename_i b xs at_ heq
  simp only[Option.some.injEq] at h;subst h
  have:xs.map f=xs.map g:=Array.map_congr_left fun a ha=>hfg a (by simpa using ha)
  simp only[execOp,heq,resolve,this]
 exact tR h hfg
def smV(P:Program)(n:Nat)(hs:List Nat)(B:Cells)(p:Oper)(e:Env):Option (Value×List (Nat×Nat)):=match aek p.op with
 |some xs=>match ya n e xs with
  |some _=>match rnM P (execOp (evj n e) p) hs B [] with
   |some (.value v,_,q)=>some (v,q)
   |_=>none
  |none=>none
 |none=>none
theorem BX{γ:Type}{f:Oper→Env→Option β}{g:β→γ}:eW n (fun p e=>(f p e).map g) o=(eW n f o).map g:=by
 unfold eW
 split
 ·unfold dA
  dsimp only
  split<;>rfl
 rfl
def smA(P:Program)(n:Nat)(hs:List Nat)(B:Cells)(p:Oper)(e:Env):Option Value:=(smV P n hs B p e).map (·.1)
def smL(P:Program)(n:Nat)(hs:List Nat)(B:Cells)(p:Oper)(e:Env):Option (List Nat):=(smV P n hs B p e).map fun x=>Wa x.2
def smR(P:Program)(n:Nat)(hs:List Nat)(B:Cells)(p:Oper)(e:Env):Option (List Nat):=(smV P n hs B p e).map fun x=>Uc x.2
section
variable {X:Cx} {o:Option JS}
theorem jmo(ps hs:List Nat)(B:Cells)(v:Value)(hj:J X (mY ps v B o))(hv:eW X.n (smA X.P X.n hs B) o=some v:=by kernel_rfl)(hq:eW X.n (smL X.P X.n hs B) o=eW X.n (smR X.P X.n hs B) o:=by kernel_rfl)(hB:dM ps o=some B:=by kernel_rfl):J X o:=by
 rw[show smA X.P X.n hs B=fun p e=>(smV X.P X.n hs B p e).map (·.1) from rfl,BX] at hv
 rw[show smL X.P X.n hs B=fun p e=>(smV X.P X.n hs B p e).map (fun x=>Wa x.2) from rfl,show smR X.P X.n hs B=fun p e=>(smV X.P X.n hs B p e).map (fun x=>Uc x.2) from rfl,BX,BX] at hq
 cases hx:eW X.n (smV X.P X.n hs B) o with
 |none=>rw[hx] at hv;cases hv
 |some x=>
  rcases x with ⟨v',q⟩
  rw[hx] at hv hq
  simp only[Option.map_some,Option.some.injEq] at hv hq
  subst hv
  refine jS (Φ:=fun u L'=>u=v'∧L'=B) ps B hx hB (fun p e hf=>?_) (fun u L' qj=>by obtain⟨rfl,rfl⟩:=qj;exact hj)
  unfold smV at hf
  split at hf<;>try (cases hf;done)
  rename_i xs ay
  split at hf<;>try (cases hf;done)
  rename_i ws Tt
  split at hf<;>try (cases hf;done)
  rename_i u B' q2 bW
  simp only[Option.some.injEq,Prod.mk.injEq] at hf
  obtain⟨rfl,rfl⟩:=hf
  refine⟨fun c hc=>?_,fun R Q E hQ=>?_⟩
  ·rw[hc] at ay;cases ay
  rw[Qc ay (Oj (f:=ev X.n e) (fun x v h=>aF h) Tt)]
  obtain⟨_,_,h3⟩:=atS _ bW (ma hq)
  exact h3 _ _ _ (fun x hx=> .inr (List.mem_append_left _ hx)) (hQ _ _ ⟨rfl,rfl⟩)
theorem Ip:∀(n t:Nat) (acc:Array Value),(Extern.BytealgMakeNoZero.digits n t acc).size=acc.size+n
 |0,_,_=>rfl
 |n+1,t,acc=>by
  simp only[Extern.BytealgMakeNoZero.digits,Ip n,Array.size_push];omega
theorem jnz{ps rs:Array TypeId}{T:TypeId}{z:List Value}(ef:EF X.P f (Extern.BytealgMakeNoZero.makeNoZero ps rs))(hT:rs[0]?=some T) (tf:TF X.P T (.slice E) sz bC z ag) (hn:n≤1000)
 (hj:∀b l,n≤l.length→J X (mY [] (.slice (some ⟨b,0,none⟩) n l.length) [(b,.cells ⟨l⟩ E (0,0))] o)) (hv:eW X.n (ajX X.n) o=some (f,[.int .i64 (n:Int)]):=by kernel_rfl) (hB:dM [] o=some []:=by kernel_rfl):J X o:=by
 obtain⟨ops,i,todo,k,e,w,kn,p,rfl,ho,hw,hc⟩:=dz hv
 obtain⟨xs,at_,ay,hx⟩:=Oi hc
 intro bX
 rcases p with ⟨dst,op,ty,pos,cZ,g⟩
 dsimp only at ay;subst ay
 refine afF X.hC ho hw ef hx ?_
 have eM:Extern.BytealgMakeNoZero.makeNoZero ps rs ⟨[Value.int .i64 (n:Int)]⟩=(do
  let some t:=rs[0]?|stuck "bytealg.MakeNoZero: no result type"
  let .slice elem ←underlying t|stuck "bytealg.MakeNoZero: slice type expected"
  if (n:Int) <0||(n:Int)>2^48 then runtimePanic (.error "makeslice: len out of range")
  let cap ←choose (.appendCap (n:Int).toNat 0 elem)
  askRoom cap
  let bytes ←choose (.extern "internal/bytealg.MakeNoZero.bytes" 0)
  let a ←newRow elem (Extern.BytealgMakeNoZero.digits cap bytes #[])
  pure (.slice (some a) (n:Int).toNat cap)):=rfl
 rw[eM]
 simp only[hT,aZ tf]
 rw[if_neg (by simp only[Bool.or_eq_true,decide_eq_true_eq];omega)]
 refine adZ rfl fun q=>?_
 refine sJ ?_
 show (if (Question.extern "internal/bytealg.MakeNoZero.bytes" 0).forced=true then _ else _)
 have key:∀cap bytes,n≤cap→bP X.P (newRow E (Extern.BytealgMakeNoZero.digits cap bytes #[]) >>= fun a=>pure (Value.slice (some a) ((n:Int).toNat) cap)) ⟨X.ro,den w⟩ (fun v s'=>ab X.C X.fn X.az ops todo (KQ X k) (A X.n (upd dst v e) X.D) s') (fun _ _=>False):=by
  intro cap bytes oC
  rw[jo]
  intro b hb
  have hl:(Extern.BytealgMakeNoZero.digits cap bytes #[]).toList.length=cap:=by
   rw[Array.length_toList,Ip];simp
  have:=hj b (Extern.BytealgMakeNoZero.digits cap bytes #[]).toList (by omega)
  rw[n7 ho] at this
  have:=this bX
  simp only[JP,gk,hl,xG] at this
  exact this
 split
 ·exact key _ _ (by show n≤(n:Int).toNat+_;rw[Int.toNat_natCast];exact Nat.le_add_right _ _)
 exact fun q2=>key _ _ (by show n≤(n:Int).toNat+_;rw[Int.toNat_natCast];exact Nat.le_add_right _ _)
def sdV(n:Nat)(p:Oper)(e:Env):Option (Addr×Nat×Nat):=match p.op with
 | .call ⟨.builtin .unsafeSliceData,xs,_⟩=>match ya n e xs.toList with
  |some [.slice (some a) l c]=>some (a,l,c)
  |_=>none
 |_=>none
theorem jsd{a:Addr}{l c:Nat}(h:c≠0)(hj:J X (mY [] (.pointer (some a)) [] o))(hv:eW X.n (sdV X.n) o=some (a,l,c):=by kernel_rfl)(hB:dM [] o=some []:=by kernel_rfl):J X o:=by
 refine jS (Φ:=fun u L'=>u= .pointer (some a)∧L'=[]) [] [] hv hB (fun p e hf=>?_) (fun u L' qj=>by obtain⟨rfl,rfl⟩:=qj;exact hj)
 unfold sdV at hf
 split at hf<;>try (cases hf;done)
 rename_i xs at_ ay
 split at hf<;>try (cases hf;done)
 rename_i a' l' c' hx
 simp only[Option.some.injEq,Prod.mk.injEq] at hf
 obtain⟨rfl,rfl,rfl⟩:=hf
 refine⟨by rw[ay];simp,fun R Q E hQ=>?_⟩
 have e1:Builtin.unsafeSliceData_ at_ p.type ⟨[.slice (some a') l' c']⟩=pure (.pointer (some a')):=by
  show (if c'≠0 then _ else _)=_
  rw[if_pos h]
 simp only[execOp,ay,resolve,si (show vv X.n e xs=_ from hx),ae,invoke,builtin,e1]
 exact hQ _ _ ⟨rfl,rfl⟩
def usV(P:Program)(n:Nat)(p:Oper)(e:Env):Option (Nat×TypeId):=match p.op with
 | .call ⟨.builtin .unsafeString,xs,at_⟩=>match at_[0]? with
  |some pt=>match a8 P pt with
   |some ⟨.pointer E,_,_,_⟩=>bif Nat.beq (P.cellsOf E) 1 then (match ya n e xs.toList with
    |some [.pointer (some ⟨b,0,none⟩),.int .i64 1]=>some (b,E)
    |_=>none) else none
   |_=>none
  |none=>none
 |_=>none
theorem jus(ps:List Nat)(x:Int)(l:List Value)(hj:∀L',J X (mY ps (.string ⟨#[x.toNat.toUInt8]⟩) L' o))(hv:eW X.n (usV X.P X.n) o=some (b,E):=by kernel_rfl)(hB:dM ps o=some [(b,.cells ⟨.int .u8 x::l⟩ E (0,0))]:=by kernel_rfl):J X o:=by
 refine jS (Φ:=fun u L'=>u= .string ⟨#[x.toNat.toUInt8]⟩) ps _ hv hB (fun p e hf=>?_) (fun u L' qj=>by subst qj;exact hj L')
 unfold usV at hf
 split at hf<;>try (cases hf;done)
 rename_i xs at_ ay
 split at hf<;>try (cases hf;done)
 rename_i pt hpt
 split at hf<;>try (cases hf;done)
 rename_i E' _ _ _ dK
 cases hc:Nat.beq (X.P.cellsOf E') 1 with
 |false=>rw[hc] at hf;cases hf
 |true=>
  rw[hc] at hf
  simp only[cond_true] at hf
  split at hf<;>try (cases hf;done)
  rename_i b' hx
  simp only[Option.some.injEq,Prod.mk.injEq] at hf
  obtain⟨rfl,rfl⟩:=hf
  have hc:=Nat.eq_of_beq_eq_true hc
  obtain⟨bC,tf⟩:=av dK
  refine⟨by rw[ay];simp,fun R Q Er hQ=>?_⟩
  have e1:Builtin.unsafeString_ at_ p.type ⟨[.pointer (some ⟨b',0,none⟩),.int .i64 1]⟩=(do
   let n ←asInt (.int .i64 1)
   let some pt:=at_[0]?|stuck "unsafe.String: no argument types"
   if n <0 then runtimePanic (.error "unsafe.String: len out of range")
   if n>IntKind.i64.max then unsupported (.unsafePointer "String: a length above the largest int")
   if n=0 then pure (.string .empty)
   else if ←variablesAt ⟨b',0,none⟩ (←elemOf pt) n.toNat then do
    let s ←loadBytes ⟨b',0,none⟩ .empty n.toNat
    freeze ⟨b',0,none⟩ n.toNat
    pure (.string s)
   else unsupported (.unsafePointer "String: not so many bytes at ptr")):=rfl
  simp only[execOp,ay,resolve,si (show vv X.n e xs=_ from hx),ae,invoke,builtin,e1]
  simp only[asInt,asIntOf,aa,ae,hpt,show ¬((1:Int) <0) by omega,show ¬((1:Int)>IntKind.i64.max) by decide,show ¬((1:Int)=0) by omega,if_false,elemOf,aZ tf,variablesAt,eO]
  have hs:(⟨X.ro,[(b',Obj.cells ⟨Value.int .u8 x::l⟩ E' (0,0))]++R⟩:St).rw=[]++(b',Obj.cells ⟨Value.int .u8 x::l⟩ E' (0,0))::R:=rfl
  have hm:(⟨X.ro,[(b',Obj.cells ⟨Value.int .u8 x::l⟩ E' (0,0))]++R⟩:St).has b' (.cells ⟨Value.int .u8 x::l⟩ E' (0,0)):= .inr (by rw[hs];exact fw)
  refine⟨_,hm,?_⟩
  have aGj:=Go.Lib.liesAt_bytes (P:=X.P) hc ((Value.int .u8 x::l).length / X.P.cellsOf E') 1 (by rw[hc];simp)
  have pb:∀ {α β:Type} (a:α) (f:α→Sem β),(Sem.pure a).bind f=f a:=fun _ _=>rfl
  simp only[Obj.shapeOf,List.size_toArray,aa,ae,pb]
  rw[show (1:Int).toNat=1 from rfl,aGj]
  simp only[ae,aa,if_true,loadBytes]
  refine⟨rfl,rfl,_,_,_,.int .u8 x,hm,rfl,?_⟩
  simp only[aa,ae]
  refine(if_neg (by omega:¬(1:Nat)=0)).mpr ?_
  refine⟨[],_,R,hs,?_⟩
  exact hQ (.string ⟨#[x.toNat.toUInt8]⟩) [(b',_)] rfl
def pnV(P:Program)(n:Nat)(p:Oper)(e:Env):Option (Nat×Nat):=match p.op with
 | .binOp .neq T x y _=>match a8 P T with
  |some ⟨.pointer E,_,_,_⟩=>match a8 P E with
   |some te=>bif Nat.blt 0 te.size then (match bn n e x with
    |some (.pointer (some ⟨b,0,none⟩))=>match bn n e y with
     |some (.pointer (some ⟨c,0,none⟩))=>some (b,c)
     |_=>none
    |_=>none) else none
   |none=>none
  |_=>none
 |_=>none
theorem apm{dep:Nat}{t:TypeId}{sz2 Aj:Nat}{z z2:List Value}{ag2:Bool}(tf:TF P t (.pointer E) sz bC z ag){d:TypeDesc}(p5:TF P E d sz2 Aj z2 ag2)(hs:sz2≠0)(a:Addr):EqD P (dep+1) t (.pointer (some a)) (.pointer (some a)) true:=by
 intro α s kk Q Er
 simp only[Op.equalIn,aa,aZ tf,cg p5,hs,ne_eq,not_false_eq_true,if_true,sameAddr,beq_self_eq_true,ae]
theorem jpn(hj:J X (mY [] (.bool false) [] o))(hv:eW X.n (pnV X.P X.n) o=some (b,b):=by kernel_rfl)(hB:dM [] o=some []:=by kernel_rfl):J X o:=by
 refine jS (Φ:=fun u L'=>u= .bool false∧L'=[]) [] [] hv hB (fun p e hf=>?_) (fun u L' qj=>by obtain⟨rfl,rfl⟩:=qj;exact hj)
 unfold pnV at hf
 split at hf<;>try (cases hf;done)
 rename_i T x y T2 ay
 split at hf<;>try (cases hf;done)
 rename_i E' _ _ _ dK
 split at hf<;>try (cases hf;done)
 rename_i te uj
 cases hc:Nat.blt 0 te.size with
 |false=>rw[hc] at hf;cases hf
 |true=>
  rw[hc] at hf
  simp only[cond_true] at hf
  split at hf<;>try (cases hf;done)
  rename_i b' hx
  split at hf<;>try (cases hf;done)
  rename_i c' hy
  simp only[Option.some.injEq,Prod.mk.injEq] at hf
  obtain⟨rfl,rfl⟩:=hf
  obtain⟨bC,tf⟩:=av dK
  obtain⟨Aj,p5⟩:=av uj
  have hc:0 <te.size:=by rwa[Nat.blt_eq] at hc
  refine⟨by rw[ay];simp,fun R Q Er hQ=>?_⟩
  have hs:te.size≠0:=by omega
  simp only[execOp,ay,aF hx,aF hy,eqGuard,aa,binOp,Op.equal,Op.maxDepth]
  simp only[Bool.not_true,Bool.false_eq_true,if_false,ae,aa]
  rw[apm (dep:=9999) tf p5 hs]
  exact hQ _ _ ⟨rfl,rfl⟩
end
attribute [irreducible] smV smA smL smR sdV usV pnV
section
variable {X:Cx} {o:Option JS}
def s0V(P:Program)(n:Nat)(p:Oper)(e:Env):Option (Addr×Nat×Nat):=match p.op with
 | .slice T x none (some y) none=>match a8 P T with
  |some ⟨.slice E,_,_,_⟩=>match a8 P E with
   |some _=>match bn n e x with
    |some (.slice (some ⟨b,0,none⟩) l c)=>match bn n e y with
     |some (.int .i64 0)=>some (⟨b,0,none⟩,l,c)
     |_=>none
    |_=>none
   |none=>none
  |_=>none
 |_=>none
theorem js0{a:Addr}{l c:Nat}(hj:J X (jO (.slice (some a) 0 c) o))(hv:dA X.n (s0V X.P X.n) o=some (a,l,c):=by kernel_rfl):J X o:=by
 refine jG hv (fun s p e ho hh hf=>?_) hj
 unfold s0V at hf
 split at hf<;>try (cases hf;done)
 rename_i T x y ay
 split at hf<;>try (cases hf;done)
 rename_i E _ _ _ dK
 split at hf<;>try (cases hf;done)
 rename_i te uj
 split at hf<;>try (cases hf;done)
 rename_i b l' c' hx
 split at hf<;>try (cases hf;done)
 rename_i hy
 simp only[Option.some.injEq,Prod.mk.injEq] at hf
 obtain⟨rfl,rfl,rfl⟩:=hf
 obtain⟨bC,tf⟩:=av dK
 obtain⟨Aj,p5⟩:=av uj
 have key:∀s,Yields X.P X.n e p s (.slice (some ⟨b,0,none⟩) 0 c'):=by
  intro s s' mU f hf K E hK
  have hb:(0:Int)≤0∧(0:Int)≤(c':Int):=by omega
  simp only[execOp,ay,Option.map_some,Option.map_none,Instr.sliceAt,Instr.slice,hf _ _ hx,hf _ _ hy,aa,aZ tf,Instr.sliceBounds,Instr.sliceBound,asIntOf,ae,hb,and_self,if_true,cg p5]
  have he:(if c'=0 then (some ⟨b,0,none⟩:Option Addr) else some ((⟨b,0,none⟩:Addr).add (0*te.size)))=some ⟨b,0,none⟩:=by
   split
   ·rfl
   simp[dI]
  rw[show (0:Int).toNat=0 from rfl,he]
  exact hK
 exact⟨by rw[ay];rfl,fun _=>key _,fun _=>key⟩
end
attribute [irreducible] s0V
section
variable {X:Cx} {o:Option JS}
def cpV(P:Program)(n:Nat)(p:Oper)(e:Env):Option Nat:=match p.op with
 | .call ⟨.builtin .cap,⟨[x]⟩,⟨[T]⟩⟩=>match a8 P T with
  |some ⟨.slice _,_,_,_⟩=>match bn n e x with
   |some (.slice _ _ c)=>some c
   |_=>none
  |_=>none
 |_=>none
theorem jcp{c:Nat}(hj:J X (jO (.int .i64 (c:Int)) o))(hv:dA X.n (cpV X.P X.n) o=some c:=by kernel_rfl):J X o:=by
 refine jG hv (fun s p e ho hh hf=>?_) hj
 unfold cpV at hf
 split at hf<;>try (cases hf;done)
 rename_i x T ay
 split at hf<;>try (cases hf;done)
 rename_i dK
 split at hf<;>try (cases hf;done)
 rename_i a l c' hx
 simp only[Option.some.injEq] at hf
 subst hf
 obtain⟨bC,tf⟩:=av dK
 have key:∀s,Yields X.P X.n e p s (.int .i64 (c':Int)):=by
  intro s s' mU f hf K E hK
  simp only[execOp,ay,resolve,invoke,builtin,List.map_toArray,List.map_cons,List.map_nil,hf _ _ hx,ae,aa,Builtin.cap_,List.getElem?_toArray,List.getElem?_cons_zero,aZ tf]
  exact hK
 exact⟨by rw[ay];rfl,fun _=>key _,fun _=>key⟩
end
attribute [irreducible] cpV
def tkO(is:List Nat)(o:Option JS):List Sg:=(qZ is o).getD []
theorem aPf{X:Cx}{ι:Type}(is:List Nat)(p:List Nat)(Ks:List (Act→St→Prop))(ef:ι→Env)(wf:ι→List Sg)(Inv:ι→Prop)(μ:ι→Nat)(i0:ι)(h0:Inv i0)(ps:List Nat)(hb:∀i,Inv i→∀K,xc X K ef (fun i=>wf i++tkO is o) Inv μ (μ i)→∀rest,J X (stW X.P X.fn p (Ks++[K]) (ef i++rest) (wf i++tkO is o)))
 (h1:q9 (ng (ef i0)) o=some (ef i0):=by kernel_rfl)(hd:∀i,lkE (ng (ef i)) (ef i)=some (ef i):=by intro _;kernel_rfl)(h2:qZ ps o=some (wf i0++tkO is o):=by kernel_rfl)(hp:∀K,Kl X.P X.fn p (Ks++[K])=lpB K (yu o):=by intro _;kernel_rfl):J X o:=
 dP p Ks ef (fun i=>wf i++tkO is o) Inv μ i0 h0 ps hb h1 hd h2 hp
attribute [irreducible] tkO
abbrev RCG(ro:Nat→Option Obj)(Φ:Value→(Nat→Option Obj)→Cells→Prop)(fr:Cells):Ending→St→Prop:=fun en s'=>∃v aG Y,en= .returned v∧Sub ro aG∧(⟨aG,Y++fr⟩:St).le s'∧Φ v aG Y
def azs(P:Program)(f:FuncId)(args:List Value)(ro:Nat→Option Obj)(own:Cells)(Φ:Value→(Nat→Option Obj)→Cells→Prop):Prop:=
 ∀fr,Fn (C0 P) P f ⟨args⟩ ⟨ro,own++fr⟩ (RCG ro Φ fr)
theorem aEY(hm:P.follows .mixedOrders=true){Φ:Value→(Nat→Option Obj)→Cells→Prop}{L:Cells}(own:List Sg)(kn:Cells)(hk:Knows ro kn)(h:∀fr,J (XC P hm f ro (RCG ro Φ fr)) (jC P f args (own++[.l fr]) kn))(hL:den own=L:=by rfl):azs P f args ro L Φ:=by
 subst hL
 intro fr
 have h:=h fr
 unfold jC at h
 split at h<;>try exact h.elim
 rename_i fn hf
 split at h<;>try exact h.elim
 rename_i c hc
 cases hl:Nat.ble args.length fn.ntmps with
 |false=>rw[hl] at h;exact h.elim
 |true=>
  rw[hl] at h
  have uR:qA P f=fn:=by simp only[qA,hf]
  have:=h hk
  simp only[JP,XC,KQ,uR] at this
  have hd:den (own++[.l fr])=den own++fr:=by rw[lF];rfl
  rw[hd] at this
  exact Mn xK hf hc hl this
section
variable {X:Cx} {o:Option JS}
theorem agY{vs:List Value}{own:Cells}{Φ:Value→(Nat→Option Obj)→Cells→Prop}(ps:List Nat)(hC:∀main T,X.C main T→C0 X.P main T)(hf:azs X.P f vs X.ro own Φ)(hj:∀v aG Y,Sub X.ro aG→Φ v aG Y→J (X.at aG) (mY ps v Y o))(h1:eW X.n (yx X.P X.n) o=some (f,vs):=by kernel_rfl)(h2:dM ps o=some own:=by kernel_rfl):J X o:=by
 obtain⟨ops,i,todo,k,e,w,kn,p,rfl,ho,hw,hc⟩:=dz h1
 obtain⟨ff,x,xs,at_,fi,ca,ws,ay,hx,rY,rfl⟩:=qH hc
 intro bX
 rcases p with ⟨dst,op,ty,pos,cZ,g⟩
 dsimp only at ay;subst ay
 have hp:=bJ h2
 have uR:Fn X.C X.P f ⟨fi++ws++ca⟩ ⟨X.ro,den w⟩ (RCG X.ro Φ (den (dD ps 0 w))):=fun main T hT c cs k1 k2=>
  (X.hC main T hT).mono _ ⟨X.ro,own++den (dD ps 0 w)⟩ _ (dJ (J:=[]) (by rw[List.append_nil];exact hp) (Sub.refl _)) (Fn.weaken hC (hf _) main T hT c cs k1 k2)
 refine ub (fi:=⟨fi⟩) (ca:=⟨ca⟩) (ws:=fi++ws++ca) X.hC ho hw hx ff rY (S3 fi ws ca) uR (fun v' s' hr=>?_) (fun ch s' hr=>by obtain⟨_,_,_,e,_⟩:=hr;cases e) (fun s' hr=>by obtain⟨_,_,_,e,_⟩:=hr;cases e)
 obtain⟨v,aG,Y,hv,hs,hle,qj⟩:=hr
 cases hv
 have:=hj _ aG Y hs qj
 rw[n7 ho] at this
 have:=this (bX.up hs)
 simp only[JP,gk,I1] at this
 exact this.more X.hC hle
theorem abh(hq:QR X (RC py fr Φ))(v:Value)(hs ps:List Nat)(Y:Cells)(fB:Sub py X.ro)(hR:Φ v Y)(h1:qU (iu X.P X.n X.fn hs o)=some v:=by kernel_rfl)(h2:Pm (iu X.P X.n X.fn hs o)=Pj (iu X.P X.n X.fn hs o):=by kernel_rfl)(h3:dM ps o=some (Y++fr):=by kernel_rfl)(h4:zm o=true:=by kernel_rfl):J X o:=
 aL hq v hs ps (Y++fr) fB ⟨v,Y,rfl,St.le_refl _,hR⟩ h1 h2 h3 h4
theorem aO9(hq:QR X (RC py fr Φ))(v:Value)(ps:List Nat)(A B:Cells)(fB:Sub py X.ro)(hR:Φ v (A++B))(h1:qU (iu X.P X.n X.fn [] o)=some v:=by kernel_rfl)(h2:Pm (iu X.P X.n X.fn [] o)=Pj (iu X.P X.n X.fn [] o):=by kernel_rfl)(h3:dM ps o=some (A++(B++fr)):=by kernel_rfl)(h4:zm o=true:=by kernel_rfl):J X o:=
 aL hq v [] ps ((A++B)++fr) fB ⟨v,A++B,rfl,St.le_refl _,hR⟩ h1 h2 (by rw[h3,List.append_assoc]) h4
theorem aO8{Φ:Value→(Nat→Option Obj)→Cells→Prop}(hq:QR X (RCG py Φ fr))(v:Value)(ps:List Nat)(Y:Cells)(fB:Sub py X.ro)(hR:Φ v X.ro Y)(h1:qU (iu X.P X.n X.fn [] o)=some v:=by kernel_rfl)(h2:Pm (iu X.P X.n X.fn [] o)=Pj (iu X.P X.n X.fn [] o):=by kernel_rfl)(h3:dM ps o=some (Y++fr):=by kernel_rfl)(h4:zm o=true:=by kernel_rfl):J X o:=
 aL hq v [] ps (Y++fr) (Sub.refl _) ⟨v,X.ro,Y,rfl,fB,St.le_refl _,hR⟩ h1 h2 h3 h4
end
theorem Ul{fn:Func}{c:Code}{s:St}{os:Os}{out:Array (Nat×ByteArray)}{Post:Value→World→Prop}(hf:P.funcs[f]?=some fn) (hb:fn.body=some c) (hl:Nat.ble args.length fn.ntmps=true) (hi:P.inits.idxOf? f=none)
 (R8:∀v s0 w,R (.returned v) s0→aR s0 w→w.os=os→w.output=out→Post v w) (Jf:∀ch s,¬R (.panicked ch) s)
 (h:Wp (C0 P) f none c (rz P fn R) (A fn.ntmps (fN 0 args) []) s):T0 P os out Post (G (Frame.enter P f ⟨args⟩ .normal) []) s:=by
 have hT:C0 P true (T0 P os out Post):=⟨rfl,os,out,Post,rfl⟩
 have iJ:=sL P os out Post
 let b:Frame:={(default:Frame) with fn:=f,kind:= .normal,roundOf:=none}
 have gV:Frame.enter P f ⟨args⟩ .normal=aK b (A fn.ntmps (fN 0 args) []) [.code c]:=by
  rw[←kL args fn.ntmps (Nat.le_of_ble_eq_true hl)]
  simp[Frame.enter,aK,hf,hb,b]
 rw[gV]
 refine h true _ hT b [] [] rfl (by simp[b]) rfl fun e a' s' q=>?_
 have last:∀(todo:List Item),a'.defers=[]→bP P (results fn a'.tmps) s' (fun v s'=>∃s0,s0.le s'∧R (.returned v) s0) (fun _ _=>False)→T0 P os out Post (G {aK b a' todo with mode:= .returning} []) s':=by
  intro todo hd hr
  refine aak rfl fun w pF tG EI=>?_
  obtain⟨r,es,bW,hl⟩:=gD _ _ _ _ w #[] hr pF
  rw[Array.empty_append] at bW
  cases r with
  |ok v w'=>
   obtain⟨s2,ht,s0,hle,hu⟩:=hl
   refine⟨v,w',seen P f es,s2,?_,R8 v s0 w' hu (aR.of_le hle ht.jK) (ht.os.trans tG) (ht.output.trans EI),ht.sub (iA _ _ _)⟩
   simp only[aK,b,G,stepG,unwind,hf,hd,bW,doReturn,hi,GStep.after,Array.append_empty,Bool.not_true,Bool.false_eq_true,if_false]
  |halt _ _=>obtain⟨_,_,hu⟩:=hl;exact hu.elim
 cases e with
 |normal=>exact iJ.go rfl rfl (g':=G {aK b a' [] with mode:= .returning} []) (fun w=>by simp[G,stepG,stepG.exec,aK,b]) (last _ q.1 q.2)
 |ret=>exact fun todo=>iJ.go rfl rfl (g':=G {aK b a' (.code .ret::todo) with mode:= .returning} []) (fun w=>by simp[G,stepG,stepG.exec,aK,b]) (last _ q.1 q.2)
 |panic ch=>exact(Jf _ _ q.2).elim
 |exit id=>exact q.elim
 |goto l=>exact q.elim
 |outgrown=>exact q.elim
def asB(P:Program)(f:FuncId)(args:List Value)(ro:Nat→Option Obj)(Φ:Value→Cells→Prop):Prop:=
 ∀os out (Post:Value→World→Prop),(∀v Y w,Φ v Y→aR ⟨ro,Y⟩ w→w.os=os→w.output=out→Post v w)→T0 P os out Post (G (Frame.enter P f ⟨args⟩ .normal) []) ⟨ro,[]⟩
theorem aEV(hm:P.follows .mixedOrders=true)(hi:P.inits.idxOf? f=none)(kn:Cells)(hk:Knows ro kn)(h:∀fr,J (XC P hm f ro (RC ro fr Φ)) (jC P f args [.l fr] kn)):asB P f args ro Φ:=by
 intro os out Post R8
 have h:=h []
 unfold jC at h
 split at h<;>try exact h.elim
 rename_i fn hf
 split at h<;>try exact h.elim
 rename_i c hc
 cases hl:Nat.ble args.length fn.ntmps with
 |false=>rw[hl] at h;exact h.elim
 |true=>
  rw[hl] at h
  have uR:qA P f=fn:=by simp only[qA,hf]
  have:=h hk
  simp only[JP,XC,KQ,uR] at this
  refine Ul hf hc hl hi (fun v s0 w hr pF tG EI=>?_) (fun ch s hr=>?_) this
  ·obtain⟨v',Y,e,hle,qj⟩:=hr
   cases e
   refine R8 _ Y w qj ?_ tG EI
   have:=aR.of_le hle pF
   rwa[List.append_nil] at this
  obtain⟨v',Y,e,_⟩:=hr;cases e
open Go.Proofs
theorem au:Tryz.prog.follows .mixedOrders=true:=by kernel_rfl
theorem zB:(∀a b:Bool,((a&&b)=true)=(a=true∧b=true))∧(∀a b:Bool,((a||b)=true)=(a=true∨b=true))∧(∀a b:Bool,((a&&b)=false)=(a=false∨b=false))∧(∀a b:Bool,((a||b)=false)=(a=false∧b=false))∧(∀b:Bool,((!b)=true)=(b=false))∧(∀b:Bool,((!b)=false)=(b=true))∧(∀(p:Prop) [Decidable p],(decide p=true)=p)∧(∀(p:Prop) [Decidable p],(decide p=false)=¬p)∧((¬True)=False)∧(∀p:Prop,(p∨False)=p)∧(∀p:Prop,(False∨p)=p):=
 ⟨Bool.and_eq_true,Bool.or_eq_true,by simp,by simp,by simp,by simp,by simp,by simp,by simp,by simp,by simp⟩
@[reducible] noncomputable def zT:Program:=Tryz.prog
abbrev zS:Value:= .slice none 0 0
abbrev zP(b:Nat):Value:= .pointer (some ⟨b,0,none⟩)
abbrev zI(n:Int):Value:= .int .i64 n
abbrev zU(n:Int):Value:= .int .u64 n
abbrev zO:List Value:=[zS,zS,zS,zS,zS,zS,zS,zS,zI 0,zI 0,zI 0,zS]
theorem zG(l:List α)(k:Nat)(h:k <l.length:=by omega):∃x,l[k]?=some x:=⟨_,List.getElem?_eq_getElem h⟩
theorem zJ{X:Cx}(t:Nat)(p:Prop)[Decidable p](h1:p→J X (Qb t (.bool true) o))(h2:¬p→J X (Qb t (.bool false) o))(hv:Ky t o=some (.bool (decide p)):=by kernel_rfl):J X o:=
 js t (decide p) (fun h=>h1 (of_decide_eq_true h)) (fun h=>h2 (of_decide_eq_false h)) hv
theorem zD{X:Cx}(k:Nat)(h:J X (res (adv X.P X.n k [] o)))(he:lhs (adv X.P X.n k [] o)=rhs (adv X.P X.n k [] o):=by kernel_rfl):J X o:=jd k [] h he
theorem zL{l:List α}{a:α}(h:l[i]?=some a):a∈l:=List.mem_of_getElem? h
theorem zR{hm:P.follows .mixedOrders=true}(v:Value)(hs ps:List Nat)(Y:Cells)(hR:Φ v Y)(h1:qU (iu P (qA P f).ntmps f hs o)=some v:=by kernel_rfl)(h2:Pm (iu P (qA P f).ntmps f hs o)=Pj (iu P (qA P f).ntmps f hs o):=by kernel_rfl)(h3:dM ps o=some Y:=by kernel_rfl)(h4:zm o=true:=by kernel_rfl):J (X0 P hm f ro (RX ro Φ)) o:=
 aL q0 v hs ps Y (Sub.refl _) ⟨_,_,rfl,rfl,hR⟩ h1 h2 h3 h4
theorem zX{hm:P.follows .mixedOrders=true}(v:Value)(hR:Φ v [])(h1:qU (iu P (qA P f).ntmps f [] o)=some v:=by kernel_rfl)(h2:Pm (iu P (qA P f).ntmps f [] o)=Pj (iu P (qA P f).ntmps f [] o):=by kernel_rfl)(h3:dM [] o=some []:=by kernel_rfl)(h4:zm o=true:=by kernel_rfl):J (X0 P hm f ro (RX ro Φ)) o:=
 zR v [] [] [] hR h1 h2 h3 h4
theorem zE(h:J (X0 Tryz.prog au f ro (RX ro Φ)) (jC Tryz.prog f args [] [])):dO Tryz.prog f args ro [] Φ:=bB au [] [] ba h
theorem zC{L:Cells}(own:List Sg)(h:J (X0 Tryz.prog au f ro (RX ro Φ)) (jC Tryz.prog f args own []))(hL:den own=L:=by rfl):dO Tryz.prog f args ro L Φ:=bB au own [] ba h hL
@[reducible] def zN(a k:Nat):List Nat:=List.range' a k
theorem zM:(∀l m:List α,(l++m).length=l.length+m.length)∧(∀(a:α) (l:List α),(a::l).length=l.length+1)∧([]:List α).length=0:=⟨fun _ _=>List.length_append,fun _ _=>rfl,rfl⟩
theorem zK{X:Cx}{m:Nat}{e:Env}{o':Option JS}(h:∀o',tw 0 [] o'=tw m [] o→q9 (ng e) o'=some e→J X o')(h1:tw 0 [] o'=tw m [] o:=by kernel_rfl)(h2:q9 (ng e) o'=some e:=by kernel_rfl):J X o':=h o' h1 h2
def iH(n lo hi:Int):Bool:=decide (lo≤n)&&decide (n≤hi)
theorem fo{n:Int}:dv zT 78 [zI n,zI lo,zI hi] ro (.bool (iH n lo hi)):=by
 refine zE<|zD 10<|jj 4 [(6,.bool false),(14,.bool ((decide (lo≤n))&&(decide (n≤hi))))] (fun gG=>?_) (fun hj=>?_)
 rotate_left
 refine js 10 (decide (lo≤n)) (fun h1=>?_) (fun h1=>?_)
 ·
  have fW:=h1
  replace fW:=of_decide_eq_true fW
  refine zD 4<|jw 14 (.bool ((decide (lo≤n))&&(decide (n≤hi)))) (w:= .bool (decide (n≤hi))) (by rw[h1]<;>rfl) ?_
  exact zK hj
 ·
  have fW:=h1
  replace fW:=of_decide_eq_false fW
  refine zD 4<|jw 14 (.bool ((decide (lo≤n))&&(decide (n≤hi)))) (w:= .bool false) (by rw[h1]<;>rfl) ?_
  exact zK hj
 refine zD 3<|zX (.bool ((decide (lo≤n))&&(decide (n≤hi)))) ⟨rfl,rfl⟩
theorem jb{n:Int}:dv zT 200 [zI n,zI lo,zI hi] ro (.bool (iH n lo hi)):=by
 refine zE<|zD 10<|jj 4 [(6,.bool false),(14,.bool ((decide (lo≤n))&&(decide (n≤hi))))] (fun gG=>?_) (fun hj=>?_)
 rotate_left
 refine js 10 (decide (lo≤n)) (fun h1=>?_) (fun h1=>?_)
 ·
  have fW:=h1
  replace fW:=of_decide_eq_true fW
  refine zD 4<|jw 14 (.bool ((decide (lo≤n))&&(decide (n≤hi)))) (w:= .bool (decide (n≤hi))) (by rw[h1]<;>rfl) ?_
  exact zK hj
 ·
  have fW:=h1
  replace fW:=of_decide_eq_false fW
  refine zD 4<|jw 14 (.bool ((decide (lo≤n))&&(decide (n≤hi)))) (w:= .bool false) (by rw[h1]<;>rfl) ?_
  exact zK hj
 refine zD 3<|zX (.bool ((decide (lo≤n))&&(decide (n≤hi)))) ⟨rfl,rfl⟩
def cv(p:α→Bool):List α→Nat→Int
 | [],_=> -1
 |x::l,k=>bif p x then k else cv p l (k+1)
theorem fx{l:List α}{x:α}(h:l[k]?=some x):l.drop k=x::l.drop (k+1):=by
 obtain⟨h1,h2⟩:=List.getElem?_eq_some_iff.1 h
 rw[List.drop_eq_getElem_cons h1,h2]
theorem eA{l:List α}(h:¬k <l.length):l.drop k=[]:=List.drop_eq_nil_of_le (by omega)
theorem jJ{p:α→Bool}{l:List α}{x:α}(h:l[k]?=some x):cv p (l.drop k) k=bif p x then (k:Int) else cv p (l.drop (k+1)) (k+1):=by rw[fx h];rfl
theorem qD{p:α→Bool}{l:List α}(h:¬k <l.length):cv p (l.drop k) k= -1:=by rw[eA h];rfl
abbrev cm(x:Int):List Value:=[zI x]
theorem avu{v:Value}{n:Int}(hl:bD ro v 1 cm xs)(hn:xs.length≤1000000):dv zT 14 [v,zI n] ro (zI (cv (fun y=>decide (y=n)) xs 0)):=by
 obtain⟨fA,rQ,rP,eP,rfl,tQ,lJ,mE⟩:=hl
 refine zE<|zD 10<|dP [1,0,1,0,0] [] (fun(zz:Nat)=>[(0,.slice fA xs.length eP),(1,zI n),(5,zI (zz:Int))]) (fun zz=>[]) (fun zz=>zz≤xs.length∧cv (fun y=>decide (y=n)) xs 0=cv (fun y=>decide (y=n)) (xs.drop zz) zz) (fun zz=>xs.length-zz) 0 ⟨by omega,rfl⟩ [] ?_
 rintro k hI K1 bH rest
 refine zD 8<|zJ 9 ((k:Int) <(xs.length:Int)) (fun h1=>?_) fun h1=>?_
 ·
  refine zD 8 ?_
  obtain⟨fJ,eI⟩:=zG xs k
  refine ek eP 1 lJ eI<|jl 0 (mE _ _ eI)<|zD 3<|zJ 17 (fJ=n) (fun h2=>?_) fun h2=>?_
  ·
   refine zD 7<|zX (zI (k:Int)) ⟨by rw[hI.2,jJ eI];simp[*],rfl⟩
  refine zD 4<|ja ((k:Int)+1) (by omega)<|zD 2<|bI bH (k+1) ⟨by omega,by rw[hI.2,jJ eI];simp[*]⟩ (by omega) [] (Sub.refl _)
 refine zD 7<|zX (zI (-1)) ⟨by rw[hI.2,qD (by omega)],rfl⟩
def cD(n:Nat):List Int:=(List.range n).map fun(i:Nat)=>(i:Int)
theorem vM(n:Nat):cD (n+1)=cD n++[(n:Int)]:=by simp[cD,List.range_succ]
theorem gP(n:Nat):(cD n).length=n:=by simp[cD]
def bL(v:Value)(xs:List Int)(d:Nat)(X:Cells):Prop:=∃(k:Nat) (cP:Int),k≤xs.length∧X=[(d,.cells ⟨[v,zI k,zU cP]⟩ 76 (0,0))]
def Dn(ro:Nat→Option Obj)(v:Value)(xs:List Int):Prop:=bD ro v 1 cm xs∧xs.length≤4611686018427387904
theorem Dn.up{v:Value}(h:Dn ro v xs)(hs:Sub ro aG):Dn aG v xs:=⟨h.1.up hs,h.2⟩
theorem toNonzero{n:Int}(h0:¬n <1)(h1:n≤1000000):IntKind.u64.wrap (n+1)≠0:=by
 rw[sE .u64 rfl _ (by omega) (by simp[IntKind.bits];omega)];omega
theorem toRange{n w:Int}(h0:¬n <1)(h1:n≤1000000)(hw:0≤w):0≤IntKind.i64.wrap (Int.tmod (aS .u64 w 16) (IntKind.u64.wrap (n+1)))∧IntKind.i64.wrap (Int.tmod (aS .u64 w 16) (IntKind.u64.wrap (n+1)))≤n:=by
 have e:IntKind.u64.wrap (n+1)=n+1:=sE .u64 rfl _ (by omega) (by simp[IntKind.bits];omega)
 rw[e]
 have h2:0≤aS .u64 w 16:=Int.fdiv_nonneg hw (by decide)
 have h3:=Int.tmod_nonneg (n+1) h2
 have h4:=Int.tmod_lt_of_pos (aS .u64 w 16) (show 0 <n+1 by omega)
 rw[ko _ (by omega)]
 omega
theorem aUz(hN:Dn ro vd xs)(hD:bL vd xs d X):dO zT 69 [zP d] ro X (fun r Y=>∃w:Int,r= zU w∧0≤w∧w <18446744073709551616∧bL vd xs d Y):=by
 obtain⟨k,cP,hk,rfl⟩:=hD
 obtain⟨hl,hn⟩:=hN
 obtain⟨fA,rQ,rP,eP,rfl,tQ,lJ,mE⟩:=hl
 refine zC [.b d (.cells ⟨[.slice fA xs.length eP,zI (k:Int),zU cP]⟩ 76 (0,0))]<|jd 19 [0,0]<|aV 13 fun BU B0 Ah=>jd 1 [0]<|gM Ah []<|jd 16 [0,0]<|aV 13 fun yA yI x6=>jd 1 [0]<|gM x6 []<|jd 16 [0,0]<|aV 13 fun pW pZ oU=>jd 1 [0]<|gM oU []<|jd 15 [0,0]<|zJ 52 ((k:Int) <(xs.length:Int)) (fun h4=>?_) fun h4=>?_
 ·
  refine jd 16 [0,0,0] ?_
  obtain⟨x66,Ha⟩:=zG xs k
  refine ek eP 1 lJ Ha<|jl 0 (mE _ _ Ha)<|zD 5<|aV 20 fun rI rK qu=>jd 1 [0]<|gM qu []<|jd 6 [0]<|ja ((k:Int)+1) (by omega)<|jd 30 [0,0]<|zR (zU (c8 .u64 (IntKind.u64.wrap ((c8 .u64 (IntKind.u64.wrap ((c8 .u64 (c8 .u64 (c8 .u64 cP (dC .u64 cP 13)) (aS .u64 (c8 .u64 cP (dC .u64 cP 13)) 7)) (dC .u64 (c8 .u64 (c8 .u64 cP (dC .u64 cP 13)) (aS .u64 (c8 .u64 cP (dC .u64 cP 13)) 7)) 17))+(IntKind.u64.wrap ((IntKind.u64.wrap x66)*13787848793156543929)))) (aS .u64 (IntKind.u64.wrap ((c8 .u64 (c8 .u64 (c8 .u64 cP (dC .u64 cP 13)) (aS .u64 (c8 .u64 cP (dC .u64 cP 13)) 7)) (dC .u64 (c8 .u64 (c8 .u64 cP (dC .u64 cP 13)) (aS .u64 (c8 .u64 cP (dC .u64 cP 13)) 7)) 17))+(IntKind.u64.wrap ((IntKind.u64.wrap x66)*13787848793156543929)))) 30))*10723151780598845931)) (aS .u64 (IntKind.u64.wrap ((c8 .u64 (IntKind.u64.wrap ((c8 .u64 (c8 .u64 (c8 .u64 cP (dC .u64 cP 13)) (aS .u64 (c8 .u64 cP (dC .u64 cP 13)) 7)) (dC .u64 (c8 .u64 (c8 .u64 cP (dC .u64 cP 13)) (aS .u64 (c8 .u64 cP (dC .u64 cP 13)) 7)) 17))+(IntKind.u64.wrap ((IntKind.u64.wrap x66)*13787848793156543929)))) (aS .u64 (IntKind.u64.wrap ((c8 .u64 (c8 .u64 (c8 .u64 cP (dC .u64 cP 13)) (aS .u64 (c8 .u64 cP (dC .u64 cP 13)) 7)) (dC .u64 (c8 .u64 (c8 .u64 cP (dC .u64 cP 13)) (aS .u64 (c8 .u64 cP (dC .u64 cP 13)) 7)) 17))+(IntKind.u64.wrap ((IntKind.u64.wrap x66)*13787848793156543929)))) 30))*10723151780598845931)) 31))) [] [0] [(d,.cells ⟨[.slice fA xs.length eP,zI ((k:Int)+1),zU (IntKind.u64.wrap ((c8 .u64 (c8 .u64 (c8 .u64 cP (dC .u64 cP 13)) (aS .u64 (c8 .u64 cP (dC .u64 cP 13)) 7)) (dC .u64 (c8 .u64 (c8 .u64 cP (dC .u64 cP 13)) (aS .u64 (c8 .u64 cP (dC .u64 cP 13)) 7)) 17))+(IntKind.u64.wrap ((IntKind.u64.wrap x66)*13787848793156543929))))]⟩ 76 (0,0))] ⟨_,rfl,(ug _ _).1,(ug _ _).2,k+1,_,(by omega),rfl⟩
 refine jd 28 [0]<|zR (zU (c8 .u64 (IntKind.u64.wrap ((c8 .u64 (c8 .u64 (c8 .u64 (c8 .u64 cP (dC .u64 cP 13)) (aS .u64 (c8 .u64 cP (dC .u64 cP 13)) 7)) (dC .u64 (c8 .u64 (c8 .u64 cP (dC .u64 cP 13)) (aS .u64 (c8 .u64 cP (dC .u64 cP 13)) 7)) 17)) (aS .u64 (c8 .u64 (c8 .u64 (c8 .u64 cP (dC .u64 cP 13)) (aS .u64 (c8 .u64 cP (dC .u64 cP 13)) 7)) (dC .u64 (c8 .u64 (c8 .u64 cP (dC .u64 cP 13)) (aS .u64 (c8 .u64 cP (dC .u64 cP 13)) 7)) 17)) 30))*10723151780598845931)) (aS .u64 (IntKind.u64.wrap ((c8 .u64 (c8 .u64 (c8 .u64 (c8 .u64 cP (dC .u64 cP 13)) (aS .u64 (c8 .u64 cP (dC .u64 cP 13)) 7)) (dC .u64 (c8 .u64 (c8 .u64 cP (dC .u64 cP 13)) (aS .u64 (c8 .u64 cP (dC .u64 cP 13)) 7)) 17)) (aS .u64 (c8 .u64 (c8 .u64 (c8 .u64 cP (dC .u64 cP 13)) (aS .u64 (c8 .u64 cP (dC .u64 cP 13)) 7)) (dC .u64 (c8 .u64 (c8 .u64 cP (dC .u64 cP 13)) (aS .u64 (c8 .u64 cP (dC .u64 cP 13)) 7)) 17)) 30))*10723151780598845931)) 31))) [] [0] [(d,.cells ⟨[.slice fA xs.length eP,zI (k:Int),zU (c8 .u64 (c8 .u64 (c8 .u64 cP (dC .u64 cP 13)) (aS .u64 (c8 .u64 cP (dC .u64 cP 13)) 7)) (dC .u64 (c8 .u64 (c8 .u64 cP (dC .u64 cP 13)) (aS .u64 (c8 .u64 cP (dC .u64 cP 13)) 7)) 17))]⟩ 76 (0,0))] ⟨_,rfl,(ug _ _).1,(ug _ _).2,k,_,(by omega),rfl⟩
theorem EV{n:Int}(hN:Dn ro vd xs)(hD:bL vd xs d X)(hn:n≤1000000):dO zT 32 [zP d,zI n] ro X (fun r Y=>∃w:Int,r= zI w∧0≤w∧(w≤n∨w=0)∧bL vd xs d Y):=by
 refine zC [.l X]<|zD 10<|zJ 6 (n <1) (fun h1=>?_) fun h1=>?_
 ·
  refine zD 6<|zR (zI 0) [] [0] X ⟨_,rfl,(by omega),(by omega),hD⟩
 refine zD 5<|jc [0] (aUz hN hD) ?_
 rintro _ X8 ⟨w8,rfl,hw8,hx8,hD8⟩
 refine zD 2<|ja (n+1) (by omega)<|zD 1<|jrm (k:= .u64) (a:=(aS .u64 w8 16)) (b:=(IntKind.u64.wrap (n+1))) 74 (toNonzero h1 hn)<|zD 4<|zR (zI (IntKind.i64.wrap (Int.tmod (aS .u64 w8 16) (IntKind.u64.wrap (n+1))))) [] [0] X8 ⟨_,rfl,(toRange h1 hn hw8).1,.inl (toRange h1 hn hw8).2,hD8⟩
theorem Bp(hN:Dn ro vd xs)(hD:bL vd xs d X)(A6: -1000≤lo∧lo≤1000)(hhi: -1000≤hi∧hi≤1000):dO zT 35 [zP d,zI lo,zI hi] ro X (fun r Y=>∃w:Int,r= zI w∧lo≤w∧(w≤hi∨w=lo)∧bL vd xs d Y):=by
 refine zC [.l X]<|zD 10<|ja (hi-lo) (by omega)<|jc (vs:=[zP d,zI (hi-lo)]) [0] (EV hN hD (by omega)) ?_
 rintro _ X12 ⟨w12,rfl,bdv,ql,aTT⟩
 refine ja (lo+w12) (by omega)<|zD 3<|zR (zI (lo+w12)) [] [0] X12 ⟨_,rfl,(by omega),(by omega),aTT⟩
theorem tx{n:Int}(hN:Dn ro vd xs)(hD:bL vd xs d X)(hn:0≤n∧n≤1000):dO zT 29 [zP d,zI n] ro X (fun r Y=>∃w:Bool,r= .bool w∧bL vd xs d Y):=by
 refine zC [.l X]<|zD 8<|ja (n-1) (by omega)<|jc (vs:=[zP d,zI (n-1)]) [0] (EV hN hD (by omega)) ?_
 rintro _ X8 ⟨w8,rfl,hw8,hx8,hD8⟩
 refine zD 4<|zR (.bool (decide (w8=0))) [] [0] X8 ⟨_,rfl,hD8⟩
def bs(l:List Nat):ByteArray:=⟨(l.map UInt8.ofNat).toArray⟩
abbrev pK(x:ByteArray):List Value:=[.string x]
structure bQ where
 f:ByteArray
 t:ByteArray
abbrev iF(x:bQ):List Value:=[.string x.f,.string x.t]
structure aA where
 name:ByteArray
 st:Int
 no:Int
 head:Int
 bold:Bool
abbrev eF(x:aA):List Value:=[.string x.name,.int .i64 x.st,.int .i64 x.no,.int .i64 x.head,.bool x.bold]
structure cu where
 a:Int
 b:Int
 same:Bool
variable {fs:List cu}
abbrev mX(x:cu):List Value:=[.int .i64 x.a,.int .i64 x.b,.bool x.same]
structure bO where
 name:ByteArray
 under:Int
variable {cs:List bO}
abbrev oW(x:bO):List Value:=[.string x.name,.int .i64 x.under]
structure aO where
 k:Int
 st:Int
 ot:Int
 fn:Int
 fl:Int
 tn:Int
 tl:Int
abbrev kM(x:aO):List Value:=[.int .i64 x.k,.int .i64 x.st,.int .i64 x.ot,.int .i64 x.fn,.int .i64 x.fl,.int .i64 x.tn,.int .i64 x.tl]
theorem nD{ps:List α}{x y:α}(h1:ps[i]?=some x) (h2:ps[k]?=some y):((ps.set i y).set k x).Perm ps:=by
 obtain⟨a,rfl⟩:=List.getElem?_eq_some_iff.1 h1
 obtain⟨b,rfl⟩:=List.getElem?_eq_some_iff.1 h2
 exact List.set_set_perm a b
theorem akm(hN:Dn ro vd xs)(hD:bL vd xs d X)(hm:bD ro vm 1 cm ys)(hy:0 <ys.length∧ys.length≤1000):dO zT 36 [zP d,vm] ro X (fun r Y=>∃w:Int,r= zI w∧w∈ys∧bL vd xs d Y):=by
 obtain⟨qma,qmb,qmo,qmc,rfl,qmk,qmh,qml⟩:=hm
 refine zC [.l X]<|zD 10<|ja ((ys.length:Int)-1) (by omega)<|jc (vs:=[zP d,zI ((ys.length:Int)-1)]) [0] (EV hN hD (by omega)) ?_
 rintro _ X10 ⟨w10,rfl,ahn,rX,VZ⟩
 obtain⟨x11,Vd⟩:=zG ys (w10.toNat)
 refine NI w10 qmc 1 qmh Vd (by omega)<|jl 0 (qml _ _ Vd)<|zD 3<|zR (zI x11) [] [0] X10 ⟨_,rfl,zL Vd,VZ⟩
theorem Zq{ys:List ByteArray}(hN:Dn ro vd xs)(hD:bL vd xs d X)(hm:bD ro vm 1 pK ys)(hy:0 <ys.length∧ys.length≤1000):dO zT 11 [zP d,vm] ro X (fun r Y=>∃w:ByteArray,r= .string w∧w∈ys∧bL vd xs d Y):=by
 obtain⟨qma,qmb,qmo,qmc,rfl,qmk,qmh,qml⟩:=hm
 refine zC [.l X]<|zD 10<|ja ((ys.length:Int)-1) (by omega)<|jc (vs:=[zP d,zI ((ys.length:Int)-1)]) [0] (EV hN hD (by omega)) ?_
 rintro _ X10 ⟨w10,rfl,ahn,rX,VZ⟩
 obtain⟨x11,Vd⟩:=zG ys (w10.toNat)
 refine NI w10 qmc 1 qmh Vd (by omega)<|jl 0 (qml _ _ Vd)<|zD 3<|zR (.string x11) [] [0] X10 ⟨_,rfl,zL Vd,VZ⟩
theorem akl(hN:Dn ro vd xs)(hD:bL vd xs d X)(hn:n≤100):dO zT 65 [zP d,zI (n:Int)] ro X (fun r Y=>∃(ps:List Int) (L X':Cells),ax r 1 3 cm ps L∧ps.Perm (cD n)∧Y=L++X'∧bL vd xs d X'):=by
 refine zC [.l X]<|zD 14<|nY<|dP [1,1,0,1,0,0] [] (fun(zz:Nat×Value×Cells)=>[(0,zP d),(1,zI (n:Int)),(4,zS),(5,zz.2.1),(6,zI (zz.1:Int))]) (fun zz=>[.l zz.2.2,.l X]) (fun zz=>zz.1≤n∧ax zz.2.1 1 3 cm (cD zz.1) zz.2.2) (fun zz=>n-zz.1) (⟨0,zS,[]⟩) ⟨by omega,ax.nil _ _ _⟩ [0,1] ?_
 rintro⟨k,v,L⟩ hI K1 bH rest
 dsimp only at hI
 refine zD 7<|zJ 12 ((k:Int) <(n:Int)) (fun h1=>?_) fun h1=>?_
 ·
  refine zD 7<|jn fun b17=>iC (sz:=1) (ps:=cD k) (qs:=[(k:Int)]) (enc:=cm) (w:= .slice (some ⟨b17,0,none⟩) 1 1) [1] [0] [(b17,.cells ⟨([(k:Int)].map cm).flatten⟩ 3 (0,0))] (hI.2) (fun s _ hZ=>bK [(k:Int)] (hZ _ (.head _)) (by intro p hp;rfl)) (fun p _=>aj rfl) (by simp[cD];omega) (fun v18 L18 ahO=>?_)
  obtain⟨adI,aaa,N2⟩:=ahO.form
  subst N2
  refine zD 4<|ja ((k:Int)+1) (by omega)<|zD 2<|bI bH (⟨k+1,(.slice adI ((cD k++[(k:Int)])).length aaa),L18⟩) ⟨by omega,by rw[vM];exact ahO⟩ (by omega) [0,2] (Sub.refl _)
 refine zD 6<|ja ((n:Int)-1) (by omega)<|zD 3<|dP [1,1,1,0,1,0,0] [] (fun(zz:Int×Value×Cells×(List Int)×Cells)=>[(0,zP d),(4,zS),(5,zz.2.1),(7,zI zz.1)]) (fun zz=>[.l zz.2.2.1,.l zz.2.2.2.2]) (fun zz=>(-1≤zz.1∧zz.1 <n)∧ax zz.2.1 1 3 cm zz.2.2.2.1 zz.2.2.1∧zz.2.2.2.1.Perm (cD n)∧bL vd xs d zz.2.2.2.2) (fun zz=>zz.1.toNat) (⟨(n:Int)-1,v,L,cD k,X⟩) ⟨by omega,hI.2,(by rw[show k=n by omega]),hD⟩ [0,1] ?_
 rintro⟨j,v,L,ps,X⟩ N8 K2 mr rest
 dsimp only at N8
 have hlen:ps.length=n:=by rw[N8.2.2.1.length_eq,gP]
 refine zD 6<|zJ 22 (j>0) (fun h2=>?_) fun h2=>?_
 ·
  refine zD 8<|jc (vs:=[zP d,zI j]) [1] (EV hN N8.2.2.2 (by omega)) ?_
  rintro _ X27 ⟨w27,rfl,bdq,JV,aTO⟩
  refine zD 6 ?_
  obtain⟨od,iW⟩:=zG ps (j.toNat)
  refine qi j 1 N8.2.1 iW (by omega) fun b30 VF=>pg 0 [1] L (fun s _ hZ=>cK N8.2.1 VF hZ iW)<|zD 8 ?_
  obtain⟨x36,y6⟩:=zG ps (w27.toNat)
  refine qi w27 1 N8.2.1 y6 (by omega) fun sq axX=>pg 0 [1] L (fun s _ hZ=>cK N8.2.1 axX hZ y6) ?_
  obtain⟨x38,NQ⟩:=zG ps (j.toNat)
  refine qi j 1 N8.2.1 NQ (by omega) fun b38 aSI=>Tj 1 0 [zI x36] x36 N8.2.1 aSI NQ rfl rfl (Nat.le_of_ble_eq_true rfl) fun L3 ho4=>zD 5 ?_
  obtain⟨x42,Va⟩:=zG ((ps.set j.toNat x36)) (w27.toNat) (by first|omega| (simp only[List.length_set,zM];omega))
  refine qi w27 1 ho4 Va (by omega) fun b42 aSG=>Tj 0 0 [zI od] od ho4 aSG Va rfl rfl (Nat.le_of_ble_eq_true rfl) fun L5 ho6=>zD 3<|ja (j-1) (by omega)<|zD 2<|bI mr (⟨j-1,v,L5,((ps.set j.toNat x36).set w27.toNat od),X27⟩) ⟨by omega,ho6,(nD iW y6).trans N8.2.2.1,aTO⟩ (by omega) [0,1] (Sub.refl _)
 refine zD 8<|zR (v) [] [0,1] (L++X) ⟨_,_,_,N8.2.1,N8.2.2.1,rfl,N8.2.2.2⟩
theorem SA(p:Int→Bool)(k:Nat):(cD (k+1)).filter p=bif p (k:Int) then (cD k).filter p++[(k:Int)] else (cD k).filter p:=by
 rw[vM,List.filter_append]
 cases h:p (k:Int)<;>simp[h]
theorem nB{x:Int}(h:x∈cD n):0≤x∧x <n:=by
 simp only[cD,List.mem_map,List.mem_range] at h
 obtain⟨i,h1,rfl⟩:=h
 omega
theorem rN(n:Nat):(cD n).Pairwise (· < ·):=by
 simp only[cD]
 rw[List.pairwise_map]
 exact List.pairwise_lt_range.imp fun h=>by omega
theorem zo(x:Int)(l:List Int)(k:Nat):x∈l→(k:Int)≤cv (fun y=>decide (y=x)) l k∧∃i,cv (fun y=>decide (y=x)) l k=k+i∧l[i.toNat]?=some x∧0≤i:=by
 induction l generalizing k with
 |nil=>intro h;cases h
 |cons y l ih=>
  intro h
  by_cases e:y=x
  ·subst e
   simp only[cv,decide_true,cond_true]
   exact⟨Int.le_refl _,0,by simp,by simp,by simp⟩
  simp only[cv,e,decide_false,cond_false]
  obtain⟨h1,i,h2,h3,h4⟩:=ih (k+1) ((List.mem_cons.1 h).resolve_left fun e2=>e e2.symm)
  refine⟨by omega,i+1,by rw[h2];omega,?_,by omega⟩
  rw[show (i+1).toNat=i.toNat+1 by omega]
  simpa using h3
theorem afh{q:List Int}(hq:q.Perm (cD n)):((cD n).filter fun i=>decide (cv (fun y=>decide (y=i)) q 0 <many)).length≤many.toNat:=by
 have iX:∀x,x∈cD n→x∈q:=fun x hx=>hq.mem_iff.2 hx
 have h1:(((cD n).filter fun i=>decide (cv (fun y=>decide (y=i)) q 0 <many)).map fun i=>cv (fun y=>decide (y=i)) q 0).Nodup:=by
  rw[List.nodup_iff_pairwise_ne,List.pairwise_map]
  refine((rN n).filter _).imp_of_mem fun {a b} ha hb zh e=>?_
  obtain⟨_,i,e1,g1,_⟩:=zo a q 0 (iX a ((List.mem_filter.1 ha).1))
  obtain⟨_,j,e2,g2,_⟩:=zo b q 0 (iX b ((List.mem_filter.1 hb).1))
  have:i=j:=by omega
  subst this
  rw[g1] at g2
  cases g2
  omega
 have h2:=xw (l₂:=cD many.toNat) h1 fun x hx=>by
  obtain⟨i,h3,rfl⟩:=List.mem_map.1 hx
  obtain⟨h4,h5⟩:=List.mem_filter.1 h3
  have h6:=of_decide_eq_true h5
  obtain⟨h7,_⟩:=zo i q 0 (iX i h4)
  simp only[cD,List.mem_map,List.mem_range]
  exact⟨(cv (fun y=>decide (y=i)) q 0).toNat,by omega,by omega⟩
 simpa [gP] using h2
theorem J8(p:α→Bool)(l:List α):(l.filter p).length≤l.length:=List.length_filter_le p l
theorem aIz(hN:Dn ro vd xs)(hD:bL vd xs d X)(hn:n≤100):dO zT 67 [zP d,zI (n:Int),zI many] ro X (fun r Y=>∃(ps:List Int) (L X':Cells),ax r 1 3 cm ps L∧ps.length≤many.toNat∧ps.Pairwise (· < ·)∧(∀x∈ps,0≤x∧x <n)∧Y=L++X'∧bL vd xs d X'):=by
 refine zC [.l X]<|zD 8<|jc (vs:=[zP d,zI (n:Int)]) [0] (akl hN hD (by first|omega|decide)) ?_
 rintro v13 _ ⟨aaQ,L13,X13,Vp,abx,rfl,ao8⟩
 refine jg 0 [.l L13,.l X13]<|zD 12<|nY<|dP [1,1,1,0,1,0,0] [] (fun(zz:Nat×Value×Cells)=>[(1,zI (n:Int)),(2,zI many),(6,zS),(7,v13),(8,zz.2.1),(9,zI (zz.1:Int))]) (fun zz=>[.l zz.2.2,.l L13,.l X13]) (fun zz=>zz.1≤n∧ax zz.2.1 1 3 cm ((cD zz.1).filter (fun i=>decide (cv (fun y=>decide (y=i)) aaQ 0 <many))) zz.2.2) (fun zz=>n-zz.1) (⟨0,zS,[]⟩) ⟨by omega,ax.nil _ _ _⟩ [0,1,2] ?_
 rintro⟨k,v,L⟩ hI K1 bH rest
 dsimp only at hI
 have hlen:aaQ.length=n:=by rw[abx.length_eq,gP]
 have wB:=J8 (fun i=>decide (cv (fun y=>decide (y=i)) aaQ 0 <many)) (cD k)
 rw[gP] at wB
 refine zD 7<|zJ 16 ((k:Int) <(n:Int)) (fun h1=>?_) fun h1=>?_
 ·
  refine zD 8<|jp (vs:=[v13,zI (k:Int)]) [1] L13 (fun aI hs hZ=>avu (Vp.kg hZ) (by first|omega| (simp only[List.length_set,zM];omega))) ?_
  refine zD 8<|zJ 24 ((cv (fun y=>decide (y=(k:Int))) aaQ 0) <many) (fun h2=>?_) fun h2=>?_
  ·
   refine zD 4<|jn fun b27=>iC (sz:=1) (ps:=((cD k).filter (fun i=>decide (cv (fun y=>decide (y=i)) aaQ 0 <many)))) (qs:=[(k:Int)]) (enc:=cm) (w:= .slice (some ⟨b27,0,none⟩) 1 1) [1] [0] [(b27,.cells ⟨([(k:Int)].map cm).flatten⟩ 3 (0,0))] (hI.2) (fun s _ hZ=>bK [(k:Int)] (hZ _ (.head _)) (by intro p hp;rfl)) (fun p _=>aj rfl) (by simp only[List.length_cons,List.length_nil];omega) (fun v28 L28 ahL=>?_)
   obtain⟨aMB,aMi,abJ⟩:=ahL.form
   subst abJ
   refine zD 4<|ja ((k:Int)+1) (by omega)<|zD 2<|bI bH (⟨k+1,(.slice aMB ((((cD k).filter (fun i=>decide (cv (fun y=>decide (y=i)) aaQ 0 <many)))++[(k:Int)])).length aMi),L28⟩) ⟨by omega,by rw[SA,decide_eq_true h2];exact ahL⟩ (by omega) [0,2,3] (Sub.refl _)
  refine zD 4<|ja ((k:Int)+1) (by omega)<|zD 2<|bI bH (⟨k+1,v,L⟩) ⟨by omega,by rw[SA,decide_eq_false h2];exact hI.2⟩ (by omega) [0,1,2] (Sub.refl _)
 refine zD 8<|zR (v) [] [0,2] (L++X13) ⟨_,_,_,hI.2,by rw[show k=n by omega];exact afh abx,(rN k).filter _,fun x hx=>by have:=nB ((List.mem_filter.1 hx).1);omega,rfl,ao8⟩
def ar9:List ByteArray:=[bs [101],bs [121],bs [115,104],bs [97],bs [110,110],bs [116,104],bs [109]]
def toW:List ByteArray:=[bs [],bs [105],bs [115],bs [116],bs [97,101],bs [106],bs [110]]
def IZ(r:bQ):Prop:=r.f∈ar9∧r.t∈toW
def jz(c:aO):Prop:=c∈[(⟨1,0,0,0,0,0,0⟩:aO),⟨2,0,0,0,0,0,0⟩,⟨1,1,0,0,0,0,0⟩,⟨2,1,0,0,0,0,0⟩,⟨4,1,0,0,0,0,0⟩]
theorem qJ{p:α→Prop}{l:List α}{x:α}(h:∀y∈l,p y)(hx:p x):∀y∈l++[x],p y:=fun y hy=>by
 rcases List.mem_append.1 hy with h1|h1
 ·exact h y h1
 rw[List.mem_singleton] at h1;subst h1;exact hx
theorem ayX(hN:Dn ro vd xs)(hD:bL vd xs d X)(hn:0≤many∧many≤100):dO zT 31 [zP d,zI many] ro X (fun r Y=>∃(ps:List bQ) (L X':Cells),ax r 2 45 iF ps L∧ps.length≤many∧(∀r∈ps,IZ r)∧Y=L++X'∧bL vd xs d X'):=by
 refine zC [.l X]<|zD 13<|jc (vs:=[zP d,zI many]) [0] (EV hN hD (by omega)) ?_
 rintro _ X10 ⟨w10,rfl,ahn,rX,VZ⟩
 refine zD 3<|nY<|dP [1,1,0,1,0,0] [] (fun(zz:Int×Value×Cells×(List bQ)×Cells)=>[(0,zP d),(4,zS),(5,zz.2.1),(6,zI zz.1)]) (fun zz=>[.l zz.2.2.1,.l zz.2.2.2.2]) (fun zz=>(0≤zz.1∧zz.2.2.2.1.length+zz.1≤many)∧ax zz.2.1 2 45 iF zz.2.2.2.1 zz.2.2.1∧(∀r∈zz.2.2.2.1,IZ r)∧bL vd xs d zz.2.2.2.2) (fun zz=>zz.1.toNat) (⟨w10,zS,[],[],X10⟩) ⟨by simp only[List.length_nil];omega,ax.nil _ _ _,(fun _ h=>by cases h),VZ⟩ [0,1] ?_
 rintro⟨j,v,L,ps,X⟩ hI K1 bH rest
 dsimp only at hI
 refine zD 6<|zJ 12 (j>0) (fun h1=>?_) fun h1=>?_
 ·
  refine zD 7<|jn fun b16=>jcL (vs:=[zP d,.slice (some ⟨b16,0,none⟩) 7 7]) [2] [0] [(b16,.cells ⟨([(bs [101]),(bs [121]),(bs [115,104]),(bs [97]),(bs [110,110]),(bs [116,104]),(bs [109])].map pK).flatten⟩ 9 (0,0))] (fun aI hs hZ=>Zq (hN.up hs) hI.2.2.2 (bU [(bs [101]),(bs [121]),(bs [115,104]),(bs [97]),(bs [110,110]),(bs [116,104]),(bs [109])] hZ.head (by intro p hp;rfl)) (by decide)) ?_
  rintro _ X17 ⟨w17,rfl,aPR,aTS⟩
  refine zD 1<|jn fun IT=>jcL (vs:=[zP d,.slice (some ⟨IT,0,none⟩) 7 7]) [1] [0] [(IT,.cells ⟨([(bs []),(bs [105]),(bs [115]),(bs [116]),(bs [97,101]),(bs [106]),(bs [110])].map pK).flatten⟩ 9 (0,0))] (fun aI hs hZ=>Zq (hN.up hs) aTS (bU [(bs []),(bs [105]),(bs [115]),(bs [116]),(bs [97,101]),(bs [106]),(bs [110])] hZ.head (by intro p hp;rfl)) (by decide)) ?_
  rintro _ X20 ⟨w20,rfl,av5,ai7⟩
  refine zD 1<|jn fun b7=>jd 5 [0,0]<|jn fun IS=>iC (sz:=2) (ps:=ps) (qs:=[(⟨w17,w20⟩:bQ)]) (enc:=iF) (w:= .slice (some ⟨IS,0,none⟩) 1 1) [5] [0] [(IS,.cells ⟨([(⟨w17,w20⟩:bQ)].map iF).flatten⟩ 45 (0,0))] (hI.2.1) (fun s _ hZ=>bK [(⟨w17,w20⟩:bQ)] (hZ _ (.head _)) (by intro p hp;rfl)) (fun p _=>aj rfl) (by simp<;>omega) (fun v25 L25 ahN=>?_)
  obtain⟨aMD,aMk,aR4⟩:=ahN.form
  subst aR4
  refine zD 4<|ja (j-1) (by omega)<|zD 2<|bI bH (⟨j-1,(.slice aMD ((ps++[(⟨w17,w20⟩:bQ)])).length aMk),L25,(ps++[(⟨w17,w20⟩:bQ)]),X20⟩) ⟨by simp only[zM];omega,ahN,qJ hI.2.2.1 ⟨aPR,av5⟩,ai7⟩ (by omega) [0,3] (Sub.refl _)
 refine zD 8<|zR (v) [] [0,1] (L++X) ⟨_,_,_,hI.2.1,(by omega),hI.2.2.1,rfl,hI.2.2.2⟩
theorem aIy(hN:Dn ro vd xs)(hD:bL vd xs d X):dO zT 30 [zP d] ro X (fun r Y=>∃w:aO,r= .agg ⟨kM w⟩∧jz w∧bL vd xs d Y):=by
 refine zC [.l X]<|zD 2<|jn fun b2=>zD 8<|jn fun b9=>zD 9<|jc (vs:=[zP d,zI 4]) [2] (EV hN hD (by omega)) ?_
 rintro _ X15 ⟨w15,rfl,aPS,ahd,ayl⟩
 obtain⟨tE,iK⟩:=zG ([(⟨1,0,0,0,0,0,0⟩:aO),(⟨2,0,0,0,0,0,0⟩:aO),(⟨1,1,0,0,0,0,0⟩:aO),(⟨2,1,0,0,0,0,0⟩:aO),(⟨4,1,0,0,0,0,0⟩:aO)]:List _) (w15.toNat) (show w15.toNat <5 from by omega)
 refine NI (a:=(some ⟨b9,0,none⟩)) (b:=b9) (off:=0) w15 5 7 (fun _ _=>rfl) iK (by omega)<|pg (m:=7) 0 [1] [(b9,.cells ⟨([(⟨1,0,0,0,0,0,0⟩:aO),(⟨2,0,0,0,0,0,0⟩:aO),(⟨1,1,0,0,0,0,0⟩:aO),(⟨2,1,0,0,0,0,0⟩:aO),(⟨4,1,0,0,0,0,0⟩:aO)].map kM).flatten⟩ 83 (0,0))] (fun s _ hZ=>xo (hZ _ (.head _)) (by intro p hp;rfl) iK) ?_
 refine jd 3 [2]<|zR (.agg ⟨[zI tE.k,zI tE.st,zI tE.ot,zI tE.fn,zI tE.fl,zI tE.tn,zI tE.tl]⟩) [2] [0] X15 ⟨tE,rfl,zL iK,ayl⟩
def G5(b:UInt8):Bool:=Nat.ble 97 b.toNat&&Nat.ble b.toNat 122
def GK(b:UInt8):Bool:=Nat.ble 65 b.toNat&&(Nat.ble b.toNat 90&& !(Nat.beq b.toNat 72||Nat.beq b.toNat 81||Nat.beq b.toNat 87))
def Script(w:ByteArray):Prop:=(∀b∈w.data.toList,G5 b=true)∨(∀b∈w.data.toList,GK b=true)
def ZU(w:ByteArray):Prop:=(0 <w.size∧w.size≤7)∧Script w
def OU(w:ByteArray):Prop:=(1≤w.size∧w.size≤3)∧Script w
theorem aei{w:ByteArray}(h:(w.data.toList.all G5||w.data.toList.all GK)=true)(h1:(Nat.blt 0 w.size&&Nat.ble w.size 7)=true):ZU w:=by
 simp only[Bool.or_eq_true,List.all_eq_true] at h
 simp only[Bool.and_eq_true,Nat.blt_eq,Nat.ble_eq] at h1
 exact⟨h1,h⟩
theorem aCc{w:ByteArray}(h:w∈[bs [97,101,115],bs [115,104,101,116,97],bs [115,109,105,116,121,104,97],bs [99,104,106,97],bs [97,110,110,101]]):ZU w:=by
 simp only[List.mem_cons,List.not_mem_nil,or_false] at h
 rcases h with rfl|rfl|rfl|rfl|rfl<;>exact aei (by decide) (by decide)
theorem aCb{w:ByteArray}(h:w∈[bs [65,69,83],bs [88,69,84,65],bs [83,77,73,84,89,65],bs [67,74,65,88],bs [65,78,78,69]]):ZU w:=by
 simp only[List.mem_cons,List.not_mem_nil,or_false] at h
 rcases h with rfl|rfl|rfl|rfl|rfl<;>exact aei (by decide) (by decide)
def nz:List ByteArray:=[bs [102,111,111,100],bs [98,114,101,97,100],bs [99,108,111,116,104],bs [104,97,116,115],bs [119,111,111,100],bs [105,114,111,110],bs [98,101,101,114],bs [105,110],bs [115,101,101]]
def px:List ByteArray:=[bs [98,97,107,101,114],bs [98,97,107,101,114,115],bs [98,111,110,110,101,116,115],bs [98,114,101,119,101,114],bs [98,114,117,115,104,101,115],bs [98,117,116,99,104,101,114],bs [99,97,110,100,108,101,115],bs [99,111,111,112,101,114],bs [99,111,111,112,101,114,115],bs [99,117,116,108,101,114],bs [104,97,116,116,101,114],bs [104,111,115,105,101,114],bs [109,101,114,99,101,114],bs [109,105,108,108,105,110,101,114],bs [116,97,105,108,111,114],bs [116,97,110,110,101,114]]
theorem GI{T:TypeId}{enc:α→List Value}(ps:List α)(hn:ps.length=n)(hl:∀p∈ps,(enc p).length=sz):ax (.slice (some ⟨b,0,none⟩) n n) sz T enc ps [(b,.cells ⟨(ps.map enc).flatten⟩ T (0,0))]:=by
 subst hn
 exact .inr ⟨b,_,ps.length,rfl,rfl,j6 ps hl,Nat.le_refl _,hl,by rw[←j6 ps hl,List.take_length]⟩
theorem T6{s t w:ByteArray}(h:∀b∈s.data.toList,b∈w.data.toList)(k:∀b∈t.data.toList,b∈w.data.toList):∀b∈(s++t).data.toList,b∈w.data.toList:=fun b hb=>by
 rw[ByteArray.data_append,Array.toList_append,List.mem_append] at hb
 exact hb.elim (h b) (k b)
theorem P1{w:ByteArray}(i j:Nat):∀b∈(w.extract i j).data.toList,b∈w.data.toList:=fun b hb=>by
 rw[ByteArray.data_extract,Array.toList_extract] at hb
 exact List.mem_of_mem_drop (List.mem_of_mem_take (by simpa [List.extract] using hb))
theorem Ui{s w:ByteArray}(h:∀b∈s.data.toList,b∈w.data.toList)(hw:Script w):Script s:=hw.imp (fun k b hb=>k b (h b hb)) (fun k b hb=>k b (h b hb))
theorem Zr(hN:Dn ro vd xs)(hD:bL vd xs d X):dO zT 34 [zP d,zI 3] ro X (fun r Y=>∃w:ByteArray,r= .string w∧OU w∧bL vd xs d Y):=by
 refine zC [.l X]<|zD 7<|jn fun sC=>jcL (vs:=[zP d,.slice (some ⟨sC,0,none⟩) 5 5]) [1] [0] [(sC,.cells ⟨([(bs [97,101,115]),(bs [115,104,101,116,97]),(bs [115,109,105,116,121,104,97]),(bs [99,104,106,97]),(bs [97,110,110,101])].map pK).flatten⟩ 9 (0,0))] (fun aI hs hZ=>Zq (hN.up hs) hD (bU [(bs [97,101,115]),(bs [115,104,101,116,97]),(bs [115,109,105,116,121,104,97]),(bs [99,104,106,97]),(bs [97,110,110,101])] hZ.head (by intro p hp;rfl)) (by decide)) ?_
 rintro _ X11 ⟨w11,rfl,aPU,aTU⟩
 refine zD 6<|jc (vs:=[zP d,zI 3]) [0] (tx hN aTU (by omega)) ?_
 rintro _ X13 ⟨w13,rfl,ao8⟩
 refine zD 1<|Jc [1,1,1] [] (fun(zz:ByteArray×Cells)=>[(0,zP d),(1,zI 3),(4,.string (bs [])),(5,.string zz.1)]) (fun zz=>[.l zz.2]) (fun zz=>ZU zz.1∧bL vd xs d zz.2) ?_ (fun K1 bH=>?_)
 ·
  rintro⟨w,X⟩ hJ rest
  dsimp only at hJ
  obtain⟨⟨YD,hw7⟩,rY⟩:=hJ.1
  refine zD 9<|jmn (k:= .i64) (a:=3) (b:=6)<|jc (vs:=[zP d,zI 1,zI (min 3 6)]) [0] (Bp hN hJ.2 (by omega) (by omega)) ?_
  rintro _ X20 ⟨w20,rfl,av5,NS,ai7⟩
  refine zD 3<|dP [1,1,1,1,0,1,0,0] [] (fun(zz:Int×ByteArray×Cells)=>[(0,zP d),(4,.string (bs [])),(5,.string w),(6,.string zz.2.1),(7,zI zz.1)]) (fun zz=>[.l zz.2.2]) (fun zz=>(0≤zz.1∧zz.2.1.size+zz.1=w20)∧(∀b∈zz.2.1.data.toList,b∈w.data.toList)∧bL vd xs d zz.2.2) (fun zz=>zz.1.toNat) (⟨w20,bs [],X20⟩) ⟨⟨by omega,by simp[bs,ByteArray.size]⟩,(fun _ h=>by simp[bs] at h),ai7⟩ [0] ?_
  rintro⟨j,t,Z⟩ hI K2 mr rest
  dsimp only at hI
  refine zD 6<|zJ 22 (j>0) (fun h1=>?_) fun h1=>?_
  ·
   refine zD 9<|ja ((w.size:Int)-1) (by omega)<|jc (vs:=[zP d,zI ((w.size:Int)-1)]) [0] (EV hN hI.2.2 (by omega)) ?_
   rintro _ X29 ⟨w29,rfl,bdp,A0,aTN⟩
   refine zD 7<|ja (w29+1) (by omega)<|jtB (b:=w) (lo:=w29) (hi:=(w29+1)) (by omega)<|jsa (a:=t) (b:=(w.extract w29.toNat (w29+1).toNat)) 9 (by rw[ByteArray.size_extract];omega) ?_
   refine zD 4<|ja (j-1) (by omega)<|zD 2<|bI mr (⟨j-1,(t++(w.extract w29.toNat (w29+1).toNat)),X29⟩) ⟨⟨by omega,by rw[ByteArray.size_append,ByteArray.size_extract];omega⟩,T6 hI.2.1 (P1 _ _),aTN⟩ (by omega) [0] (Sub.refl _)
  refine zD 8<|zR (.string t) [] [0] Z ⟨_,rfl,⟨by omega,Ui hI.2.1 rY⟩,hI.2.2⟩
 refine js 13 w13 (fun h2=>?_) (fun h2=>?_)
 ·
  subst h2
  refine zD 3<|jn fun IU=>jcL (vs:=[zP d,.slice (some ⟨IU,0,none⟩) 5 5]) [1] [0] [(IU,.cells ⟨([(bs [65,69,83]),(bs [88,69,84,65]),(bs [83,77,73,84,89,65]),(bs [67,74,65,88]),(bs [65,78,78,69])].map pK).flatten⟩ 9 (0,0))] (fun aI hs hZ=>Zq (hN.up hs) ao8 (bU [(bs [65,69,83]),(bs [88,69,84,65]),(bs [83,77,73,84,89,65]),(bs [67,74,65,88]),(bs [65,78,78,69])] hZ.head (by intro p hp;rfl)) (by decide)) ?_
  rintro _ X16 ⟨w16,rfl,aFg,ai8⟩
  refine zD 2<|bI bH ⟨w16,X16⟩ ⟨aCb aFg,ai8⟩ Nat.zero_lt_one [0] (Sub.refl _)
 subst h2
 refine zD 2<|bI bH ⟨w11,X13⟩ ⟨aCc aPU,ao8⟩ Nat.zero_lt_one [0] (Sub.refl _)
theorem agG:dO zT 66 [] ro [] (fun r Y=>∃L,ax r 1 9 pK nz L∧Y=L):=by
 refine zE<|zD 6<|jn fun b1=>zD 3<|zR (.slice (some ⟨b1,0,none⟩) 9 9) [] [0] [(b1,.cells ⟨[.string (bs [102,111,111,100]),.string (bs [98,114,101,97,100]),.string (bs [99,108,111,116,104]),.string (bs [104,97,116,115]),.string (bs [119,111,111,100]),.string (bs [105,114,111,110]),.string (bs [98,101,101,114]),.string (bs [105,110]),.string (bs [115,101,101])]⟩ 9 (0,0))] ⟨_,GI nz rfl (by intro p hp;rfl),rfl⟩
theorem agW:dO zT 68 [] ro [] (fun r Y=>∃L,ax r 1 9 pK px L∧Y=L):=by
 refine zE<|zD 6<|jn fun b1=>zD 3<|zR (.slice (some ⟨b1,0,none⟩) 16 16) [] [0] [(b1,.cells ⟨[.string (bs [98,97,107,101,114]),.string (bs [98,97,107,101,114,115]),.string (bs [98,111,110,110,101,116,115]),.string (bs [98,114,101,119,101,114]),.string (bs [98,114,117,115,104,101,115]),.string (bs [98,117,116,99,104,101,114]),.string (bs [99,97,110,100,108,101,115]),.string (bs [99,111,111,112,101,114]),.string (bs [99,111,111,112,101,114,115]),.string (bs [99,117,116,108,101,114]),.string (bs [104,97,116,116,101,114]),.string (bs [104,111,115,105,101,114]),.string (bs [109,101,114,99,101,114]),.string (bs [109,105,108,108,105,110,101,114]),.string (bs [116,97,105,108,111,114]),.string (bs [116,97,110,110,101,114])]⟩ 9 (0,0))] ⟨_,GI px rfl (by intro p hp;rfl),rfl⟩
structure bw where
 word:ByteArray
 cls:Int
 oh:Int
 dX:Value
abbrev mb(x:bw):List Value:=[.string x.word,zI x.cls,zI x.oh,x.dX]
def W9(hs:List bw)(i:Int):Prop:=0≤i∧∃h,hs[i.toNat]?=some h∧0≤h.cls
theorem WO{p:α→Bool}{l:List α}{x:α}(h:l[k]?=some x):(l.drop k).any p=(p x||(l.drop (k+1)).any p):=by rw[fx h];rfl
theorem apQ{p:α→Bool}{l:List α}(h:¬k <l.length):(l.drop k).any p=false:=by rw[eA h];rfl
def Dr(fs:List cu)(a b:Int):Bool:=fs.any fun y=>decide (y.a=a)&&decide (y.b=b)
theorem xH{hs:List bw}(hN:Dn ro vd xs)(hD:bL vd xs d X)(hh:bD ro vh 4 mb hs)(hn:hs.length≤100):dO zT 33 [zP d,.agg ⟨[zI 2,zI 0,zI 0,vc,vh,zS,zS]⟩,.string nm] ro X (fun r Y=>∃w:aA,r= .agg ⟨eF w⟩∧w.name=nm∧(0≤w.st∧w.st≤1)∧(w.head= -1∨W9 hs w.head)∧bL vd xs d Y):=by
 obtain⟨dH,u5,u4,du,rfl,xp,qR,qQ⟩:=hh
 refine zC [.l X]<|zD 2<|jn fun b4=>jn fun b6=>jd 8 [1]<|jc (vs:=[zP d,zI 1]) [2] (EV hN hD (by omega)) ?_
 rintro _ X15 ⟨w15,rfl,aPS,ahd,ayl⟩
 refine zD 2<|jc (vs:=[zP d,zI 1,zI 3]) [0] (Bp hN ayl (by omega) (by omega)) ?_
 rintro _ X18 ⟨w18,rfl,bdu,bdh,Sa⟩
 refine zD 1<|jc (vs:=[zP d,zI 1,zI 3]) [0] (Bp hN Sa (by omega) (by omega)) ?_
 rintro _ X20 ⟨w20,rfl,av5,NS,ai7⟩
 refine zD 1<|jc (vs:=[zP d,zI 1,zI 40]) [0] (Bp hN ai7 (by omega) (by omega)) ?_
 rintro _ X22 ⟨w22,rfl,bdt,uh,aTQ⟩
 refine jn fun b23=>jcL (vs:=[zP d,.slice (some ⟨b23,0,none⟩) 3 3]) [1] [0] [(b23,.cells ⟨([w18,w20,w22].map cm).flatten⟩ 3 (0,0))] (fun aI hs hZ=>akm (hN.up hs) aTQ (bU [w18,w20,w22] hZ.head (by intro p hp;rfl)) (by simp)) ?_
 rintro _ X24 ⟨w24,rfl,bdr,aTP⟩
 refine zD 1<|jc (vs:=[zP d,zI 4]) [0] (tx hN aTP (by omega)) ?_
 rintro _ X26 ⟨w26,rfl,aHA⟩
 refine zD 1<|jn fun b7=>jd 12 [0]<|nY<|dP [1,1,1,0,1,0,0] [] (fun(zz:Nat×Value×Cells×(List Int))=>[(0,zP d),(4,zP b4),(6,zP b6),(7,zP b7),(8,zz.2.1),(9,zI (zz.1:Int))]) (fun zz=>[.l zz.2.2.1,.l X26,.b b7 (.cells ⟨[.string nm,zI w15,zI w24,zI (-1),.bool w26]⟩ 55 (0,0)),.b b6 (.cells ⟨[.string ByteArray.empty,zI 0,zI 0,zI 0,.bool false]⟩ 55 (0,0)),.b b4 (.cells ⟨[zI 2,zI 0,zI 0,vc,.slice dH hs.length du,zS,zS]⟩ 90 (0,0))]) (fun zz=>(zz.1≤hs.length∧zz.2.2.2.length≤zz.1)∧ax zz.2.1 1 3 cm zz.2.2.2 zz.2.2.1∧∀i∈zz.2.2.2,W9 hs i) (fun zz=>hs.length-zz.1) (⟨0,zS,[],[]⟩) ⟨⟨by omega,by simp⟩,ax.nil _ _ _,(fun _ h=>by cases h)⟩ [0,2,1,4,5] ?_
 rintro⟨k,v,L,ps⟩ hI K1 bH rest
 dsimp only at hI
 refine jd 10 [4]<|zJ 33 ((k:Int) <(hs.length:Int)) (fun h1=>?_) fun h1=>?_
 ·
  refine jd 10 [4] ?_
  obtain⟨x40,avZ⟩:=zG hs k
  refine ek du 4 qR avZ<|zD 1<|jl 1 (qQ _ _ avZ)<|zD 2<|zJ 43 (x40.cls≥0) (fun h2=>?_) fun h2=>?_
  ·
   refine zD 4<|jn fun b46=>iC (sz:=1) (ps:=ps) (qs:=[(k:Int)]) (enc:=cm) (w:= .slice (some ⟨b46,0,none⟩) 1 1) [1] [0] [(b46,.cells ⟨([(k:Int)].map cm).flatten⟩ 3 (0,0))] (hI.2.1) (fun s _ hZ=>bK [(k:Int)] (hZ _ (.head _)) (by intro p hp;rfl)) (fun p _=>aj rfl) (by simp<;>omega) (fun v47 L47 ahI=>?_)
   obtain⟨aMx,aMe,aR0⟩:=ahI.form
   subst aR0
   refine zD 4<|ja ((k:Int)+1) (by omega)<|zD 2<|bI bH (⟨k+1,(.slice aMx ((ps++[(k:Int)])).length aMe),L47,(ps++[(k:Int)])⟩) ⟨by simp only[zM];omega,ahI,qJ hI.2.2 ⟨by omega,x40,avZ,by assumption⟩⟩ (by omega) [0,2,3,4,5] (Sub.refl _)
  refine zD 4<|ja ((k:Int)+1) (by omega)<|zD 2<|bI bH (⟨k+1,v,L,ps⟩) ⟨by dsimp only;omega,hI.2⟩ (by omega) (zN 0 5) (Sub.refl _)
 refine zD 6<|DL hI.2.1<|zD 2<|js 51 (decide ((ps.length:Int)>0)) (fun h3=>?_) (fun h3=>?_)
 ·
  have wC:=h3
  replace wC:=of_decide_eq_true wC
  refine zD 1<|jc (vs:=[zP d,zI 4]) [1] (tx hN aHA (by omega)) ?_
  rintro _ X53 ⟨w53,rfl,ao7⟩
  refine zD 3<|js 55 (!w53) (fun h4=>?_) (fun h4=>?_)
  ·
   try simp only[zB] at h4
   refine zD 5<|DL hI.2.1<|ja ((ps.length:Int)-1) (by omega)<|jc (vs:=[zP d,zI ((ps.length:Int)-1)]) [0] (EV hN ao7 (by omega)) ?_
   rintro _ X61 ⟨w61,rfl,bdm,bdg,aTH⟩
   obtain⟨x62,avW⟩:=zG ps (w61.toNat)
   refine qi w61 1 hI.2.1 avW (by omega) fun b62 aSB=>pg 0 [1] L (fun s _ hZ=>cK hI.2.1 aSB hZ avW)<|jd 9 [2,2,3]<|zR (.agg ⟨[.string nm,zI w15,zI w24,zI x62,.bool w26]⟩) [3] [0] X61 ⟨⟨_,_,_,_,_⟩,rfl,rfl,(by dsimp only;omega),.inr (hI.2.2 _ (zL avW)),aTH⟩
  try simp only[zB] at h4
  refine jd 8 [2,3]<|zR (.agg ⟨[.string nm,zI w15,zI w24,zI (-1),.bool w26]⟩) [3] [0] X53 ⟨⟨_,_,_,_,_⟩,rfl,rfl,(by dsimp only;omega),.inl rfl,ao7⟩
 have wC:=h3
 replace wC:=of_decide_eq_false wC
 refine jd 13 [2,3]<|zR (.agg ⟨[.string nm,zI w15,zI w24,zI (-1),.bool w26]⟩) [3] [1] X26 ⟨⟨_,_,_,_,_⟩,rfl,rfl,(by dsimp only;omega),.inl rfl,aHA⟩
theorem agS(hm:bD ro vm 1 cm ys)(hn:ys.length≤1000):dO zT 27 [vm] ro [] (fun r Y=>∃L,ax r 1 3 cm ys L∧Y=L):=by
 obtain⟨qma,qmb,qmo,qmc,rfl,qmk,qmh,qml⟩:=hm
 refine zE<|zD 6<|jn fun b3=>zD 1<|iC (sz:=1) (ps:=[]) (qs:=ys) (enc:=cm) (w:= .slice qma ys.length qmc) [0] [] [] (bA (b:=b3) (T:=3)) (fun s he _=>⟨qma,qmb,qmo,qmc,rfl,qmh,fun i p hp=>(qml i p hp).ext he⟩) (fun p _=>aj rfl) (by simp<;>omega) (fun v5 L5 Hv=>?_)
 rw[List.nil_append] at Hv
 obtain⟨va5,vc5,he5⟩:=Hv.form
 subst he5
 refine zD 3<|zR ((.slice va5 (ys).length vc5)) [] [0] L5 ⟨_,Hv,rfl⟩
theorem gT{ys:List aA}(hm:bD ro vm 5 eF ys)(hn:ys.length≤1000):dO zT 16 [vm] ro [] (fun r Y=>∃L,ax r 5 55 eF ys L∧Y=L):=by
 obtain⟨qma,qmb,qmo,qmc,rfl,qmk,qmh,qml⟩:=hm
 refine zE<|zD 6<|jn fun b3=>zD 1<|iC (sz:=5) (ps:=[]) (qs:=ys) (enc:=eF) (w:= .slice qma ys.length qmc) [0] [] [] (bA (b:=b3) (T:=55)) (fun s he _=>⟨qma,qmb,qmo,qmc,rfl,qmh,fun i p hp=>(qml i p hp).ext he⟩) (fun p _=>aj rfl) (by simp<;>omega) (fun v5 L5 Hv=>?_)
 rw[List.nil_append] at Hv
 obtain⟨va5,vc5,he5⟩:=Hv.form
 subst he5
 refine zD 3<|zR ((.slice va5 (ys).length vc5)) [] [0] L5 ⟨_,Hv,rfl⟩
theorem aEN{vf:Value}{x:cu}(hf:bD ro vf 3 mX fs)(hn:fs.length≤1000):dv zT 38 [.agg ⟨[s0,s1,s2,t0,t1,ru,vb,va,zI gone,zI new,zI af,vf]⟩,.agg ⟨[zI x.a,zI x.b,.bool x.same]⟩] ro (.bool (Dr fs x.a x.b)):=by
 obtain⟨jA,BJ,BI,gY,rfl,I9,uM,uL⟩:=hf
 refine zE<|zD 2<|jn fun b2=>jn fun b3=>zD 8<|dP [1,0,1,0,0] [] (fun(zz:Nat)=>[(2,zP b2),(3,zP b3),(5,zI (zz:Int))]) (fun zz=>[.b b3 (.cells ⟨[zI x.a,zI x.b,.bool x.same]⟩ 58 (0,0)),.b b2 (.cells ⟨[s0,s1,s2,t0,t1,ru,vb,va,zI gone,zI new,zI af,.slice jA fs.length gY]⟩ 40 (0,0))]) (fun zz=>zz≤fs.length∧Dr fs x.a x.b=(fs.drop zz).any (fun y=>decide (y.a=x.a)&&decide (y.b=x.b))) (fun zz=>fs.length-zz) 0 ⟨by omega,rfl⟩ [0,1] ?_
 rintro k hI K1 bH rest
 refine jd 9 [1]<|zJ 10 ((k:Int) <(fs.length:Int)) (fun h1=>?_) fun h1=>?_
 ·
  refine jd 9 [1] ?_
  obtain⟨tE,iK⟩:=zG fs k
  refine ek gY 3 uM iK<|zD 1<|jl 0 (uL _ _ iK)<|jd 4 [0]<|js 9 (decide (tE.a=x.a)) (fun h2=>?_) (fun h2=>?_)
  ·
   have mv:=h2
   replace mv:=of_decide_eq_true mv
   refine jd 3 [1] ?_
   obtain⟨Ap,JW⟩:=zG fs k
   refine ek gY 3 uM JW<|zD 1<|jl 1 (uL _ _ JW)<|jd 5 [0]<|zJ 32 (Ap.b=x.b) (fun h3=>?_) fun h3=>?_
   ·
    refine zD 6<|zX (.bool true) ⟨by rw[hI.2,WO iK];simp_all,rfl⟩
   refine zD 4<|ja ((k:Int)+1) (by omega)<|zD 2<|bI bH (k+1) ⟨by omega,by rw[hI.2,WO iK];simp_all⟩ (by omega) [0,1] (Sub.refl _)
  have mv:=h2
  replace mv:=of_decide_eq_false mv
  refine zD 15<|ja ((k:Int)+1) (by omega)<|zD 2<|bI bH (k+1) ⟨by omega,by rw[hI.2,WO iK];simp_all⟩ (by omega) [0,1] (Sub.refl _)
 refine zD 7<|zX (.bool false) ⟨by rw[hI.2,apQ (by omega)],rfl⟩
theorem aUy{fa:Value}{uY MF:List aA}(hN:Dn ro vd xs)(hD:bL vd xs d X)(hb:bD ro vb 5 eF uY)(ha:bD ro va 5 eF MF)(hn:uY.length≤100∧MF.length≤100):dO zT 37 [zP d,.agg ⟨[s0,s1,s2,t0,t1,ru,vb,va,zI gone,zI new,zI af,fa]⟩] ro X (fun r Y=>∃x:cu,r= .agg ⟨mX x⟩∧(0≤x.a∧(x.a <uY.length∨x.a=0))∧(0≤x.b∧(x.b <MF.length∨x.b=0))∧bL vd xs d Y):=by
 obtain⟨lh,O6,O4,kY,rfl,O5,Nk,Nj⟩:=hb
 obtain⟨kS,KU,KS,kA,rfl,KT,JF,JE⟩:=ha
 refine zC [.l X]<|zD 2<|jn fun b3=>jn fun b4=>jd 7 [1]<|ja ((uY.length:Int)-1) (by omega)<|jd 4 [1]<|ja ((MF.length:Int)-1) (by omega)<|zD 1<|aV 5 fun BU B0 Ah=>jc (vs:=[zP d,zI ((uY.length:Int)-1)]) [2] (EV hN hD (by omega)) ?_
 rintro _ X10 ⟨w10,rfl,ahn,rX,VZ⟩
 refine gM Ah [[2],[2]]<|aV 11 fun yA yI x6=>jc (vs:=[zP d,zI ((MF.length:Int)-1)]) [0] (EV hN VZ (by omega)) ?_
 rintro _ X16 ⟨w16,rfl,aFg,iK,ai8⟩
 refine gM x6 [[2],[2]]<|aV 13 fun pW pZ oU=>jc (vs:=[zP d,zI 2]) [0] (tx hN ai8 (by omega)) ?_
 rintro _ X18 ⟨w18,rfl,Sa⟩
 refine gM oU [[2],[2]]<|zD 1<|aV 15 fun rI rK qu=>jd 1 [1]<|gq qu<|zD 2<|zR (.agg ⟨[zI w10,zI w16,.bool w18]⟩) [1] [0] X18 ⟨⟨_,_,_⟩,rfl,(by dsimp only;omega),(by dsimp only;omega),Sa⟩
inductive de{α β:Type}(R:α→β→Prop):List α→List β→Prop
 |nil:de R [] []
 |cons {a:α} {b:β} {l:List α} {m:List β}:R a b→de R l m→de R (a::l) (b::m)
theorem de.snoc{R:α→β→Prop}{l:List α}{m:List β}{a:α}{b:β}(h:de R l m)(k:R a b):de R (l++[a]) (m++[b]):=by
 induction h with
 |nil=>exact .cons k .nil
 |cons h1 _ ih=>exact .cons h1 ih
theorem de.len{R:α→β→Prop}{l:List α}{m:List β}(h:de R l m):l.length=m.length:=by
 induction h with
 |nil=>rfl
 |cons _ _ ih=>simp[ih]
theorem de.get{R:α→β→Prop}{l:List α}{m:List β}(h:de R l m){a:α}(ha:l[i]?=some a):∃b,m[i]?=some b∧R a b:=by
 induction h generalizing i with
 |nil=>simp at ha
 |cons h1 _ ih=>
  cases i with
  |zero=>simp at ha;subst ha;exact⟨_,rfl,h1⟩
  |succ i=>exact ih (by simpa using ha)
theorem de.imp{R S:α→β→Prop}{l:List α}{m:List β}(h:de R l m)(k:∀a b,R a b→S a b):de S l m:=by
 induction h with
 |nil=>exact .nil
 |cons h1 _ ih=>exact .cons (k _ _ h1) ih
structure cy where
 word:ByteArray
 cls:Int
 oh:Int
 dX:List Int
variable {hd:List cy}
def dr(h:bw)(x:cy):Prop:=h.word=x.word∧h.cls=x.cls∧h.oh=x.oh
def rF(ro:Nat→Option Obj)(h:bw)(x:cy):Prop:=h.word=x.word∧h.cls=x.cls∧h.oh=x.oh∧bD ro h.dX 1 cm x.dX
def jh(ro:Nat→Option Obj)(vc vh:Value)(cs:List bO)(hv:List bw)(hd:List cy):Prop:=bD ro vc 2 oW cs∧bD ro vh 4 mb hv∧de (rF ro) hv hd
def gF(nc nh:Nat)(i:Nat)(x:cy):Prop:=(-1≤x.cls∧x.cls <nc)∧(-1≤x.oh∧x.oh <nh∧x.oh≠i)∧(x.dX.length≤nh∧x.dX.Pairwise (· < ·)∧∀y∈x.dX,0≤y∧y <nh∧y≠i)∧(x.oh≠ -1→x.cls= -1∧x.dX=[])∧(x.oh= -1→x.cls= -1→x.dX≠[])
structure xa(cs:List bO)(hd:List cy):Prop where
 nc:0 <cs.length∧cs.length≤3
 nh:hd.length≤4
 cls:∀(i:Nat) (c:bO),cs[i]?=some c→c.name∈nz∧ -1≤c.under∧c.under <i
 names:(cs.map (·.name)).Pairwise fun a b=>cT a b=false
 A8:∀(i:Nat) (x:cy),hd[i]?=some x→x.word∈px∧gF cs.length hd.length i x
 words:(hd.map (·.word)).Pairwise fun a b=>cT a b=false∧strLt b a=false
def nU(names:List Int)(cs:List bO):Prop:=∀(i:Nat) (c:bO),cs[i]?=some c→(∃y,names[i]?=some y∧nz[y.toNat]?=some c.name)∧ -1≤c.under∧c.under <i
theorem Si{l:List α}{x y:α}(h:(l++[x])[i]?=some y):l[i]?=some y∨(i=l.length∧y=x):=by
 rcases Nat.lt_trichotomy i l.length with h1|h1|h1
 ·rw[List.getElem?_append_left h1] at h;exact .inl h
 ·subst h1;simp at h;exact .inr ⟨rfl,h.symm⟩
 rw[List.getElem?_eq_none (by simp;omega)] at h;cases h
theorem nU.snoc{names:List Int}(h:nU names cs){y u:Int}(h1:names[cs.length]?=some y) (h2:nz[y.toNat]?=some nm) (h3: -1≤u∧u <cs.length):nU names (cs++[⟨nm,u⟩]):=fun i c hc=>by
 rcases Si hc with h4| ⟨rfl,rfl⟩
 ·exact h i c h4
 exact⟨⟨y,h1,h2⟩,h3⟩
def mT(ws:List Int)(nc:Nat)(hv:List bw)(hd:List cy)(Z:Cells)(i:Nat):Prop:=
 (∀ro,Knows ro Z→de (rF ro) hv hd)∧hd.length=i∧hv.length=i∧(∀(k:Nat) (x:cy),hd[k]?=some x→(∃w,ws[k]?=some w∧px[w.toNat]?=some x.word)∧gF nc ws.length k x)∧de dr hv hd
theorem mT.snoc{ws:List Int}{hv:List bw}{Z A:Cells}(h:mT ws nc hv hd Z i){hV:bw}{x:cy}{w:Int}(h0:dr hV x)(h1:∀ro,Knows ro A→rF ro hV x)(h2:ws[i]?=some w) (h3:px[w.toNat]?=some x.word) (h4:gF nc ws.length i x):
 mT ws nc (hv++[hV]) (hd++[x]) (A++Z) (i+1):=by
 obtain⟨g1,g2,g3,g4,g5⟩:=h
 refine⟨fun ro hk=>(g1 ro hk.right).snoc (h1 ro hk.left),by simp[g2],by simp[g3],fun k y hy=>?_,g5.snoc h0⟩
 rcases Si hy with h5| ⟨rfl,rfl⟩
 ·exact g4 k y h5
 rw[g2];exact⟨⟨w,h2,h3⟩,h4⟩
theorem anD{i n w:Int}(hi:0≤i∧i <n)(hw:0≤w∧w≤n-2):0≤Int.tmod (i+1+w) n∧Int.tmod (i+1+w) n <n∧Int.tmod (i+1+w) n≠i:=by
 have h1:=Int.tmod_nonneg n (show 0≤i+1+w by omega)
 have h2:=Int.tmod_lt_of_pos (i+1+w) (show 0 <n by omega)
 refine⟨h1,h2,fun h=>?_⟩
 have h3:=Int.tmod_add_mul_tdiv (i+1+w) n
 rw[h] at h3
 have h4:n*(i+1+w).tdiv n=1+w:=by omega
 rcases Int.lt_trichotomy ((i+1+w).tdiv n) 0 with h5|h5|h5
 ·have:n*(i+1+w).tdiv n≤n* -1:=Int.mul_le_mul_of_nonneg_left (by omega) (by omega)
  omega
 ·rw[h5] at h4;omega
 have:n*1≤n*(i+1+w).tdiv n:=Int.mul_le_mul_of_nonneg_left (by omega) (by omega)
 omega
theorem Dt:nz.Pairwise fun a b=>cT a b=false:=by simp only[Az];decide
theorem Wz:px.Pairwise fun a b=>cT a b=false∧strLt b a=false:=by simp only[Az,P2];decide
def lH(i:Nat)(k:Nat)(al:List Int):Prop:=al.length≤k∧al.Pairwise (· < ·)∧∀y∈al,0≤y∧y <k∧y≠i
theorem p9{l:List α}{R:α→α→Prop}(h:l.Pairwise R){j:Nat}{a b:α}(BN:i <j)(ha:l[i]?=some a) (hb:l[j]?=some b):R a b:=by
 obtain⟨h1,rfl⟩:=List.getElem?_eq_some_iff.1 ha
 obtain⟨h2,rfl⟩:=List.getElem?_eq_some_iff.1 hb
 exact List.pairwise_iff_getElem.1 h i j h1 h2 BN
theorem ae9{l:List α}{f:α→β}{R:β→β→Prop}(h:∀(i j:Nat) (a b:α),i <j→l[i]?=some a→l[j]?=some b→R (f a) (f b)):(l.map f).Pairwise R:=by
 rw[List.pairwise_map,List.pairwise_iff_getElem]
 exact fun i j hi hj BN=>h i j _ _ BN (List.getElem?_eq_getElem hi) (List.getElem?_eq_getElem hj)
theorem T8{a b:ByteArray}(h:cT a b=false):cT b a=false:=by
 cases h2:cT b a with
 |false=>rfl
 |true=>rw[B1.1 h2,B1.2 rfl] at h;cases h
theorem aag{No kB:List Int}{hv:List bw}{Z:Cells}(hc:nU No cs)(hp:No.Perm (cD nz.length))(hn:0 <cs.length∧cs.length≤3)(hh:mT kB cs.length hv hd Z i)(hi:i=kB.length)(h4:kB.length≤4)(hs:kB.Pairwise (· < ·))(hm:∀x∈kB,0≤x∧x <px.length):xa cs hd:=by
 obtain⟨g1,g2,g3,g4,_⟩:=hh
 have iX:∀y∈No,0≤y∧y <nz.length:=fun y hy=>nB (hp.mem_iff.1 hy)
 have lZ:No.Pairwise (· ≠·):=(hp.pairwise_iff (fun h=>Ne.symm h)).2 ((rN _).imp fun h=>by omega)
 refine⟨hn,by omega,fun k c hk=>?_,ae9 fun a b x y zh hx hy=>?_,fun k x hk=>?_,ae9 fun a b x y zh hx hy=>?_⟩
 ·obtain⟨⟨y,h1,h2⟩,h3⟩:=hc k c hk
  exact⟨zL h2,h3⟩
 ·obtain⟨⟨p,p1,p2⟩,_⟩:=hc a x hx
  obtain⟨⟨q,q1,q2⟩,_⟩:=hc b y hy
  have YG:=p9 lZ zh p1 q1
  have hp0:=iX p (zL p1)
  have YF:=iX q (zL q1)
  rcases Nat.lt_trichotomy p.toNat q.toNat with h|h|h
  ·exact p9 Dt h p2 q2
  ·exact absurd (show p=q by omega) YG
  exact T8 (p9 Dt h q2 p2)
 ·obtain⟨⟨w,h1,h2⟩,h3⟩:=g4 k x hk
  have:hd.length=kB.length:=by omega
  rw[this]
  exact⟨zL h2,h3⟩
 obtain⟨⟨p,p1,p2⟩,_⟩:=g4 a x hx
 obtain⟨⟨q,q1,q2⟩,_⟩:=g4 b y hy
 have YG:=p9 hs zh p1 q1
 have hp0:=hm p (zL p1)
 exact p9 Wz (show p.toNat <q.toNat by omega) p2 q2
theorem lH.step(h:lH i k al):lH i (k+1) al:=⟨by have:=h.1;omega,h.2.1,fun y hy=>by have:=h.2.2 y hy;omega⟩
theorem lH.snoc(h:lH i k al)(hk:(k:Int)≠i):lH i (k+1) (al++[(k:Int)]):=by
 refine⟨by have:=h.1;simp;omega,List.pairwise_append.2 ⟨h.2.1,List.pairwise_singleton _ _,fun a ha b hb=>?_⟩,qJ (fun y hy=>by have:=h.2.2 y hy;omega) (by omega)⟩
 rw[List.mem_singleton] at hb;subst hb
 exact(h.2.2 a ha).2.1
theorem ain{r:Int}{w:ByteArray}(h:0≤r∧r <nh∧r≠i)(h4:0 <nc):gF nc nh i ⟨w,-1,r,[]⟩:=
 have h1:=h.1
 have h2:=h.2.1
 have h3:=h.2.2
 ⟨⟨by simp,by simp<;>omega⟩,⟨by simp<;>omega,by simpa using h2,by simpa using h3⟩,⟨by simp,by simp,by simp⟩,fun _=>⟨rfl,rfl⟩,fun h=>by simp at h;omega⟩
theorem Mb{c:Int}{w:ByteArray}(hc:0≤c∧c <nc)(h:lH i k al)(hk:k≤nh)(hi:i <nh):gF nc nh i ⟨w,c,-1,al⟩:=
 ⟨⟨by simp<;>omega,by simpa using hc.2⟩,⟨by simp,by simp<;>omega,by simp<;>omega⟩,⟨by have:=h.1;simp<;>omega,h.2.1,fun y hy=>by have:=h.2.2 y hy;simp<;>omega⟩,fun hh=>by simp at hh,fun _ hh=>by simp at hh;omega⟩
theorem aio{w:ByteArray}(h:lH i k al)(hk:k≤nh)(hi:i <nh)(dL:(al.length:Int)>0):gF nc nh i ⟨w,-1,-1,al⟩:=
 ⟨⟨by simp,by simp<;>omega⟩,⟨by simp,by simp<;>omega,by simp<;>omega⟩,⟨by have:=h.1;simp<;>omega,h.2.1,fun y hy=>by have:=h.2.2 y hy;simp<;>omega⟩,fun hh=>by simp at hh,fun _ _ hh=>by simp at hh;subst hh;simp at dL⟩
set_option maxHeartbeats 1000000 in
theorem aps (hN:Dn ro vd xs) (hD:bL vd xs d X):dO zT 28 [zP d,zI 3,zI 4] ro X (fun r Y=>∃(cs:List bO) (hv:List bw) (hd:List cy) (vc vh:Value) (Z X':Cells),r= .agg ⟨[vc,vh]⟩∧xa cs hd∧de dr hv hd∧(∀aG,Knows aG Z→jh aG vc vh cs hv hd)∧Y=Z++X'∧bL vd xs d X'):=by
 refine zC [.l X]<|zD 2<|jn fun b6=>zD 3<|jn fun b7=>zD 4<|jc [] (agG) ?_
 rintro v16 L16 ⟨_,aQW,rfl⟩
 refine DL aQW<|jc (vs:=[zP d,zI (nz.length:Int)]) [3] (akl hN hD (by first|omega|decide)) ?_
 rintro v18 _ ⟨No,L18,X18,abA,Ry,rfl,Sa⟩
 refine jg 0 [.l L18,.l X18]<|zD 7<|jc (vs:=[zP d,zI 1,zI 3]) [1] (Bp hN Sa (by omega) (by omega)) ?_
 rintro _ X21 ⟨w21,rfl,aos,qk,aTR⟩
 refine zD 3<|nY<|dP [1,1,1,0,1,0,0] [] (fun(zz:Int×Value×Cells×(List bO)×Cells)=>[(0,zP d),(2,zI 4),(6,zP b6),(7,zP b7),(8,v18),(9,zI zz.1)]) (fun zz=>[.l zz.2.2.1,.l zz.2.2.2.2,.b b7 (.cells ⟨[zz.2.1,zS]⟩ 35 (0,0)),.l L18,.b b6 (.cells ⟨[zS,zS]⟩ 35 (0,0))]) (fun zz=>(0≤zz.1∧zz.2.2.2.1.length+zz.1=w21)∧ax zz.2.1 2 142 oW zz.2.2.2.1 zz.2.2.1∧nU No zz.2.2.2.1∧bL vd xs d zz.2.2.2.2) (fun zz=>zz.1.toNat) (⟨w21,zS,[],[],X21⟩) ⟨by simp only[List.length_nil];omega,ax.nil _ _ _,(fun i c h=>by simp at h),aTR⟩ [0,1,4,2,5] ?_
 rintro⟨j,vC,LC,cs,X⟩ hI K1 bH rest
 dsimp only at hI
 have hlen:No.length=9:=by rw[Ry.length_eq,gP];rfl
 refine zD 6<|zJ 23 (j>0) (fun h1=>?_) fun h1=>?_
 ·
  refine jd 10 [2,2]<|DL hI.2.1 ?_
  obtain⟨x33,ag8⟩:=zG No (cs.length)
  refine jxo 1 abA ag8 fun b33 aSM=>pg 0 [3] L18 (fun s _ hZ=>cK abA aSM hZ ag8)<|jd 3 [2]<|DL hI.2.1<|ja ((cs.length:Int)-1) (by omega)<|aV 2 fun yA yI x6=>jc [] (agG) ?_
  rintro v28 L28 ⟨_,aFU,rfl⟩
  refine eH x6 (zN 1 5) ?_
  obtain⟨x35,Vb⟩:=zG nz (x33.toNat) (by have:=nB (Ry.mem_iff.1 (zL ag8));omega)
  refine qi x33 1 aFU Vb (Int.toNat_of_nonneg (show 0≤x33∧x33 <((nz).length:Int) from (nB (Ry.mem_iff.1 (zL ag8)))).1).symm fun b35 aSK=>pg 0 [0] L28 (fun s _ hZ=>cK aFU aSK hZ Vb)<|aV 16 fun pW pZ oU=>jc (vs:=[zP d,zI (-1),zI ((cs.length:Int)-1)]) [2] (Bp hN hI.2.2.2 (by omega) (by omega)) ?_
  rintro _ X42 ⟨w42,rfl,bdo,Va,aTL⟩
  refine gM oU [[1],[3],[4],[3],[3]]<|zD 1<|aV 18 fun rI rK qu=>jn fun BT=>eH qu (zN 1 6)<|aV 19 fun An Ay Ba=>iC (sz:=2) (ps:=cs) (qs:=[(⟨x35,w42⟩:bO)]) (enc:=oW) (w:= .slice (some ⟨BT,0,none⟩) 1 1) [3] [0] [(BT,.cells ⟨([(⟨x35,w42⟩:bO)].map oW).flatten⟩ 142 (0,0))] (hI.2.1) (fun s _ hZ=>bK [(⟨x35,w42⟩:bO)] (hZ _ (.head _)) (by intro p hp;rfl)) (fun p _=>aj rfl) (by simp<;>omega) (fun v45 L45 ahJ=>?_)
  obtain⟨ata,asY,axv⟩:=ahJ.form
  subst axv
  refine gM Ba [[3],[4],[5],[4]]<|zD 1<|aV 21 fun ZY aai VN=>jd 1 [4]<|gq VN<|zD 3<|ja (j-1) (by omega)<|zD 2<|bI bH (⟨j-1,(.slice ata ((cs++[(⟨x35,w42⟩:bO)])).length asY),L45,(cs++[(⟨x35,w42⟩:bO)]),X42⟩) ⟨by simp only[zM];omega,ahJ,nU.snoc hI.2.2.1 ag8 Vb (by omega),aTL⟩ (by omega) [0,2,4,5,6] (Sub.refl _)
 refine zD 5<|jc [] (agW) ?_
 rintro v48 L48 ⟨_,aQM,rfl⟩
 refine DL aQM<|zD 2<|jc (vs:=[zP d,zI 4]) [2] (EV hN hI.2.2.2 (by omega)) ?_
 rintro _ X52 ⟨w52,rfl,bdn,wq,aTK⟩
 refine jc (vs:=[zP d,zI (px.length:Int),zI w52]) [0] (aIz hN aTK (by first|omega|decide)) ?_
 rintro v53 _ ⟨kB,L53,X53,awG,bel,wx,ah1,rfl,ao7⟩
 refine jg 0 [.l L53,.l X53]<|zD 5<|DL awG<|zD 8<|nY<|nY<|dP [1,1,1,1,1,1,0,1,0,0] [] (fun(zz:Nat×Value×Cells×(List bw)×(List cy)×Cells×Cells)=>[(0,zP d),(6,zP b6),(7,zP b7),(10,v53),(11,zI (kB.length:Int)),(12,zI (zz.1:Int))]) (fun zz=>[.l zz.2.2.1,.l zz.2.2.2.2.2.1,.l zz.2.2.2.2.2.2,.l LC,.b b7 (.cells ⟨[vC,zz.2.1]⟩ 35 (0,0)),.l L53,.b b6 (.cells ⟨[zS,zS]⟩ 35 (0,0))]) (fun zz=>zz.1≤kB.length∧ax zz.2.1 4 145 mb zz.2.2.2.1 zz.2.2.1∧mT kB cs.length zz.2.2.2.1 zz.2.2.2.2.1 zz.2.2.2.2.2.1 zz.1∧bL vd xs d zz.2.2.2.2.2.2) (fun zz=>kB.length-zz.1) (⟨0,zS,[],[],[],[],X53⟩) ⟨by omega,ax.nil _ _ _,⟨fun _ _=> .nil,rfl,rfl,(fun k x h=>by simp at h),.nil⟩,ao7⟩ [1,0,3,5,6,2,8] ?_
 rintro⟨i,vH,LH,hv,hd,Z,X⟩ hJ K7 Y6 rest
 dsimp only at hJ
 have hll:=hJ.2.2.1.2.2.1
 have Rx:kB.length≤4:=by omega
 have iJ:cs.length≤3:=by omega
 refine zD 7<|zJ 58 ((i:Int) <(kB.length:Int)) (fun h7=>?_) fun h7=>?_
 ·
  refine zD 5<|Jc [1,1,1,1,1,1,0,1,0,0,1,0,0,1] [K7] (fun(zz:Nat×Int×Int×ByteArray×Cells)=>[(0,zP d),(6,zP b6),(7,zP b7),(10,v53),(11,zI (kB.length:Int)),(12,zI (i:Int)),(13,zP zz.1)]) (fun zz=>[.b zz.1 (.cells ⟨[.string zz.2.2.2.1,zI zz.2.1,zI (-1),zS]⟩ 145 (0,0)),.l LH,.l Z,.l zz.2.2.2.2,.l LC,.b b7 (.cells ⟨[vC,vH]⟩ 35 (0,0)),.l L53,.b b6 (.cells ⟨[zS,zS]⟩ 35 (0,0))]) (fun zz=>kB[i]?=some zz.2.2.1∧px[zz.2.2.1.toNat]?=some zz.2.2.2.1∧(0≤zz.2.1∧zz.2.1 <cs.length)∧bL vd xs d zz.2.2.2.2) ?_ (fun K8 hK8=>?_)
  ·
   rintro⟨Ak,w,y,x,X⟩ Tv rest
   dsimp only at Tv
   refine zD 2<|Jc [1,1,1,1,1,1,0,1,0,0,1,0,0,1,0,1] [K7] (fun(zz:Bool×Cells)=>[(0,zP d),(6,zP b6),(7,zP b7),(10,v53),(11,zI (kB.length:Int)),(12,zI (i:Int)),(13,zP Ak),(80,.bool zz.1)]) (fun zz=>[.b Ak (.cells ⟨[.string x,zI w,zI (-1),zS]⟩ 145 (0,0)),.l LH,.l Z,.l zz.2,.l LC,.b b7 (.cells ⟨[vC,vH]⟩ 35 (0,0)),.l L53,.b b6 (.cells ⟨[zS,zS]⟩ 35 (0,0))]) (fun zz=>(zz.1=true→1 <kB.length)∧bL vd xs d zz.2) ?_ (fun K9 hK9=>?_)
   ·
    rintro⟨q,X⟩ hJ3 rest
    dsimp only at hJ3
    refine js 80 q (fun h8=>?_) (fun h8=>?_)
    ·
     subst h8
     have hgt:=hJ3.1 rfl
     refine zD 4<|ja ((i:Int)+1) (by omega)<|zD 2<|ja ((kB.length:Int)-2) (by omega)<|zD 2<|aV 5 fun Dj Ds uv=>jc (vs:=[zP d,zI ((kB.length:Int)-2)]) [3] (EV hN hJ3.2 (by omega)) ?_
     rintro _ X86 ⟨w86,rfl,bdl,bdf,aTE⟩
     refine gM uv []<|ja (((i:Int)+1)+w86) (by omega)<|jrm (k:= .i64) (a:=(((i:Int)+1)+w86)) (b:=(kB.length:Int)) 3 (by omega)<|aV 10 fun FD Gc zi=>jd 1 [1]<|gM zi []<|zD 1<|aV 12 fun Pt PT CV=>jd 1 [1]<|gq CV<|jd 6 [5,1]<|jn fun b95=>iC (sz:=4) (ps:=hv) (qs:=[(⟨x,(-1),(Int.tmod (((i:Int)+1)+w86) (kB.length:Int)),zS⟩:bw)]) (enc:=mb) (w:= .slice (some ⟨b95,0,none⟩) 1 1) [3] [0] [(b95,.cells ⟨([(⟨x,(-1),(Int.tmod (((i:Int)+1)+w86) (kB.length:Int)),zS⟩:bw)].map mb).flatten⟩ 145 (0,0))] (hJ.2.1) (fun s _ hZ=>bK [(⟨x,(-1),(Int.tmod (((i:Int)+1)+w86) (kB.length:Int)),zS⟩:bw)] (hZ _ (.head _)) (by intro p hp;rfl)) (by intro p hp;rw[List.mem_singleton] at hp;subst hp;exact aj rfl) (by simp<;>omega) (fun v96 L96 ahE=>?_)
     obtain⟨aMo,aL5,aRT⟩:=ahE.form
     subst aRT
     refine jd 6 [6]<|ja ((i:Int)+1) (by omega)<|zD 2<|bI Y6 (⟨i+1,(.slice aMo ((hv++[(⟨x,(-1),(Int.tmod (((i:Int)+1)+w86) (kB.length:Int)),zS⟩:bw)])).length aL5),L96,(hv++[(⟨x,(-1),(Int.tmod (((i:Int)+1)+w86) (kB.length:Int)),zS⟩:bw)]),_,Z,X86⟩) ⟨by omega,ahE,(by have:=mT.snoc (A:=[]) hJ.2.2.1 (h0:=⟨rfl,rfl,rfl⟩) (hV:=⟨x,-1,(Int.tmod (((i:Int)+1)+w86) (kB.length:Int)),zS⟩) (x:=⟨x,-1,(Int.tmod (((i:Int)+1)+w86) (kB.length:Int)),[]⟩) (fun ro _=>⟨rfl,rfl,rfl,bD.nil _ _ _ _ _⟩) Tv.1 Tv.2.1 (ain (anD ⟨by omega,by omega⟩ ⟨by omega,by omega⟩) (by omega));simpa only[List.nil_append] using this),aTE⟩ (by omega) [0,4,2,5,6,7,8] (Sub.refl _)
    subst h8
    refine zD 8<|nY<|dP [1,1,1,1,1,1,0,1,0,0,1,0,0,1,1,0,1,0,0] [K7] (fun(zz:Nat×Value×Cells×(List Int)×Cells)=>[(0,zP d),(6,zP b6),(7,zP b7),(10,v53),(11,zI (kB.length:Int)),(12,zI (i:Int)),(13,zP Ak),(14,zI (zz.1:Int))]) (fun zz=>[.l zz.2.2.1,.l zz.2.2.2.2,.b Ak (.cells ⟨[.string x,zI w,zI (-1),zz.2.1]⟩ 145 (0,0)),.l LH,.l Z,.l LC,.b b7 (.cells ⟨[vC,vH]⟩ 35 (0,0)),.l L53,.b b6 (.cells ⟨[zS,zS]⟩ 35 (0,0))]) (fun zz=>(zz.1≤kB.length∧zz.2.2.2.1.length≤zz.1)∧ax zz.2.1 1 3 cm zz.2.2.2.1 zz.2.2.1∧lH i zz.1 zz.2.2.2.1∧bL vd xs d zz.2.2.2.2) (fun zz=>kB.length-zz.1) (⟨0,zS,[],[],X⟩) ⟨by simp,ax.nil _ _ _,⟨by simp,by simp,by simp⟩,hJ3.2⟩ [0,4,1,2,3,5,6,7,8] ?_
    rintro⟨k,vA,LA,al,X⟩ hK K13 N7 rest
    dsimp only at hK
    obtain⟨qa,qc,rfl⟩:=hK.2.1.form
    refine zD 7<|zJ 100 ((k:Int) <(kB.length:Int)) (fun BQ=>?_) fun BQ=>?_
    ·
     refine zD 10<|js 106 (!decide ((k:Int)=(i:Int))) (fun yo=>?_) (fun yo=>?_)
     ·
      have H2:=yo
      replace H2:=of_decide_eq_false (by simpa using H2)
      refine zD 1<|jc (vs:=[zP d,zI 4]) [1] (tx hN hK.2.2.2 (by omega)) ?_
      rintro _ aJn ⟨aL3,rfl,ar0⟩
      refine zD 2<|js 109 aL3 (fun Sd=>?_) (fun Sd=>?_)
      ·
       subst Sd
       refine jd 5 [2]<|jn fun aI1=>iC (sz:=1) (ps:=al) (qs:=[(k:Int)]) (enc:=cm) (w:= .slice (some ⟨aI1,0,none⟩) 1 1) [2] [0] [(aI1,.cells ⟨([(k:Int)].map cm).flatten⟩ 3 (0,0))] (hK.2.1) (fun s _ hZ=>bK [(k:Int)] (hZ _ (.head _)) (by intro p hp;rfl)) (fun p _=>aj rfl) (by simp<;>omega) (fun baO aVN YK=>?_)
       obtain⟨aBo,aBh,aGS⟩:=YK.form
       subst aGS
       refine jd 5 [3]<|ja ((k:Int)+1) (by omega)<|zD 2<|bI N7 (⟨k+1,(.slice aBo ((al++[(k:Int)])).length aBh),aVN,(al++[(k:Int)]),aJn⟩) ⟨by simp only[zM];omega,YK,lH.snoc hK.2.2.1 (by omega),ar0⟩ (by omega) [0,2,3,4,5,6,7,8,9] (Sub.refl _)
      subst Sd
      refine zD 4<|ja ((k:Int)+1) (by omega)<|zD 2<|bI N7 (⟨k+1,(.slice qa al.length qc),LA,al,aJn⟩) ⟨by dsimp only;omega,hK.2.1,lH.step hK.2.2.1,ar0⟩ (by omega) [1,0,2,3,4,5,6,7,8] (Sub.refl _)
     have H2:=yo
     replace H2:=of_decide_eq_true (by simpa using H2)
     refine zD 8<|ja ((k:Int)+1) (by omega)<|zD 2<|bI N7 (⟨k+1,(.slice qa al.length qc),LA,al,X⟩) ⟨by dsimp only;omega,hK.2.1,lH.step hK.2.2.1,hK.2.2.2⟩ (by omega) (zN 0 9) (Sub.refl _)
    refine jd 10 [2]<|js 120 (decide ((al.length:Int)>0)) (fun HZ=>?_) (fun HZ=>?_)
    ·
     have wE:=HZ
     replace wE:=of_decide_eq_true wE
     refine zD 1<|jc (vs:=[zP d,zI 4]) [1] (tx hN hK.2.2.2 (by omega)) ?_
     rintro _ aJm ⟨aL0,rfl,arZ⟩
     refine zD 2<|js 123 aL0 (fun Ob=>?_) (fun Ob=>?_)
     ·
      subst Ob
      refine jd 9 [2,6,2]<|jn fun OM=>iC (sz:=4) (ps:=hv) (qs:=[(⟨x,(-1),-1,(.slice qa al.length qc)⟩:bw)]) (enc:=mb) (w:= .slice (some ⟨OM,0,none⟩) 1 1) [4] [0] [(OM,.cells ⟨([(⟨x,(-1),-1,(.slice qa al.length qc)⟩:bw)].map mb).flatten⟩ 145 (0,0))] (hJ.2.1) (fun s _ hZ=>bK [(⟨x,(-1),-1,(.slice qa al.length qc)⟩:bw)] (hZ _ (.head _)) (by intro p hp;rfl)) (by intro p hp;rw[List.mem_singleton] at hp;subst hp;exact aj rfl) (by simp<;>omega) (fun aBy ald rh=>?_)
      obtain⟨PB,PA,R3⟩:=rh.form
      subst R3
      refine jd 5 [7]<|ja ((i:Int)+1) (by omega)<|zD 2<|LU Y6 (⟨i+1,(.slice PB ((hv++[(⟨x,(-1),-1,(.slice qa al.length qc)⟩:bw)])).length PA),ald,(hv++[(⟨x,(-1),-1,(.slice qa al.length qc)⟩:bw)]),_,LA++Z,aJm⟩) ⟨by omega,rh,mT.snoc (A:=LA) hJ.2.2.1 (h0:=⟨rfl,rfl,rfl⟩) (x:=⟨x,_,-1,al⟩) (fun ro hk=>⟨rfl,rfl,rfl,hK.2.1.kg hk⟩) Tv.1 Tv.2.1 (aio hK.2.2.1 (by omega) (by omega) (by assumption)),arZ⟩ (by omega) [[0],[3,5],[2],[6],[7],[8],[9]] (Sub.refl _)
     subst Ob
     refine jd 6 [6,2]<|jn fun OM=>iC (sz:=4) (ps:=hv) (qs:=[(⟨x,w,-1,(.slice qa al.length qc)⟩:bw)]) (enc:=mb) (w:= .slice (some ⟨OM,0,none⟩) 1 1) [4] [0] [(OM,.cells ⟨([(⟨x,w,-1,(.slice qa al.length qc)⟩:bw)].map mb).flatten⟩ 145 (0,0))] (hJ.2.1) (fun s _ hZ=>bK [(⟨x,w,-1,(.slice qa al.length qc)⟩:bw)] (hZ _ (.head _)) (by intro p hp;rfl)) (by intro p hp;rw[List.mem_singleton] at hp;subst hp;exact aj rfl) (by simp<;>omega) (fun aBy ald rh=>?_)
     obtain⟨PB,PA,R3⟩:=rh.form
     subst R3
     refine jd 5 [7]<|ja ((i:Int)+1) (by omega)<|zD 2<|LU Y6 (⟨i+1,(.slice PB ((hv++[(⟨x,w,-1,(.slice qa al.length qc)⟩:bw)])).length PA),ald,(hv++[(⟨x,w,-1,(.slice qa al.length qc)⟩:bw)]),_,LA++Z,aJm⟩) ⟨by omega,rh,mT.snoc (A:=LA) hJ.2.2.1 (h0:=⟨rfl,rfl,rfl⟩) (x:=⟨x,_,-1,al⟩) (fun ro hk=>⟨rfl,rfl,rfl,hK.2.1.kg hk⟩) Tv.1 Tv.2.1 (Mb (by omega) hK.2.2.1 (by omega) (by omega)),arZ⟩ (by omega) [[0],[3,5],[2],[6],[7],[8],[9]] (Sub.refl _)
    have wE:=HZ
    replace wE:=of_decide_eq_false wE
    refine jd 10 [6,2]<|jn fun OM=>iC (sz:=4) (ps:=hv) (qs:=[(⟨x,w,-1,(.slice qa al.length qc)⟩:bw)]) (enc:=mb) (w:= .slice (some ⟨OM,0,none⟩) 1 1) [4] [0] [(OM,.cells ⟨([(⟨x,w,-1,(.slice qa al.length qc)⟩:bw)].map mb).flatten⟩ 145 (0,0))] (hJ.2.1) (fun s _ hZ=>bK [(⟨x,w,-1,(.slice qa al.length qc)⟩:bw)] (hZ _ (.head _)) (by intro p hp;rfl)) (by intro p hp;rw[List.mem_singleton] at hp;subst hp;exact aj rfl) (by simp<;>omega) (fun aBy ald rh=>?_)
    obtain⟨PB,PA,R3⟩:=rh.form
    subst R3
    refine jd 5 [7]<|ja ((i:Int)+1) (by omega)<|zD 2<|LU Y6 (⟨i+1,(.slice PB ((hv++[(⟨x,w,-1,(.slice qa al.length qc)⟩:bw)])).length PA),ald,(hv++[(⟨x,w,-1,(.slice qa al.length qc)⟩:bw)]),_,LA++Z,X⟩) ⟨by omega,rh,mT.snoc (A:=LA) hJ.2.2.1 (h0:=⟨rfl,rfl,rfl⟩) (x:=⟨x,_,-1,al⟩) (fun ro hk=>⟨rfl,rfl,rfl,hK.2.1.kg hk⟩) Tv.1 Tv.2.1 (Mb (by omega) hK.2.2.1 (by omega) (by omega)),hK.2.2.2⟩ (by omega) [[0],[2,5],[3],[6],[7],[8],[9]] (Sub.refl _)
   refine zD 4<|js 77 (decide ((kB.length:Int)>1)) (fun V3=>?_) (fun V3=>?_)
   ·
    have wD:=V3
    replace wD:=of_decide_eq_true wD
    refine zD 1<|jc (vs:=[zP d,zI 3]) [3] (tx hN Tv.2.2.2 (by omega)) ?_
    rintro _ X79 ⟨w79,rfl,aTG⟩
    refine zD 2<|bI hK9 ⟨w79,X79⟩ ⟨fun _=>by omega,aTG⟩ Nat.zero_lt_one [1,2,3,0,4,5,6,7] (Sub.refl _)
   have wD:=V3
   replace wD:=of_decide_eq_false wD
   refine zD 4<|bI hK9 ⟨false,X⟩ ⟨(fun h=>by cases h),Tv.2.2.2⟩ Nat.zero_lt_one (zN 0 8) (Sub.refl _)
  refine zD 3 ?_
  obtain⟨x64,NP⟩:=zG kB i
  refine jxo 1 awG NP fun b64 aSA=>pg 0 [5] L53 (fun s _ hZ=>cK awG aSA hZ NP)<|jd 3 [4]<|DL hI.2.1<|ja ((cs.length:Int)-1) (by omega)<|Jb [0,14] ⟨fun z14 t15 J6=>?_,fun z17 t18 VW=>?_,trivial⟩
  ·
   refine jc [] (agW) ?_
   rintro v61 L61 ⟨_,Vo,rfl⟩
   refine eH J6 (zN 1 7) ?_
   obtain⟨x66,Ha⟩:=zG px (x64.toNat) (by have:=ah1 _ (zL NP);omega)
   refine qi x64 1 Vo Ha (Int.toNat_of_nonneg (show 0≤x64∧x64 <((px).length:Int) from (ah1 _ (zL NP))).1).symm fun b66 axW=>pg 0 [0] L61 (fun s _ hZ=>cK Vo axW hZ Ha)<|Jb [12,14] ⟨fun z20 t21 aiZ=>?_,fun z23 t24 VT=>?_,trivial⟩
   ·
    refine jc (vs:=[zP d,zI ((cs.length:Int)-1)]) [3] (EV hN hJ.2.2.2 (by omega)) ?_
    rintro _ X73 ⟨w73,rfl,aFb,abp,ai6⟩
    refine gM aiZ [[1],[5],[6]]<|zD 1<|aV 14 fun ada adW EN=>jn fun Ak=>eH EN (zN 1 8)<|aV 15 fun Ps PS HV=>jd 1 [0]<|gq HV<|zD 1<|bI hK8 ⟨Ak,w73,_,x66,X73⟩ ⟨NP,Ha,(by dsimp only;omega),ai6⟩ Nat.zero_lt_one [0,3,4,1,5,6,7,8] (Sub.refl _)
   refine jn fun Ak=>eH VT (zN 1 8)<|aV 12 fun Pr PQ HU=>jc (vs:=[zP d,zI ((cs.length:Int)-1)]) [4] (EV hN hJ.2.2.2 (by omega)) ?_
   rintro _ X73 ⟨w73,rfl,aFb,abp,ai6⟩
   refine gM HU [[2],[6],[7]]<|zD 1<|aV 15 fun Pq PO HT=>jd 1 [1]<|gq HT<|zD 1<|bI hK8 ⟨Ak,w73,_,x66,X73⟩ ⟨NP,Ha,(by dsimp only;omega),ai6⟩ Nat.zero_lt_one [1,3,4,0,5,6,7,8] (Sub.refl _)
  refine jn fun Ak=>eH VW (zN 1 7)<|aV 0 fun ac9 adV VS=>jc [] (agW) ?_
  rintro v61 L61 ⟨_,Vo,rfl⟩
  refine eH VS (zN 1 8) ?_
  obtain⟨x66,Ha⟩:=zG px (x64.toNat) (by have:=ah1 _ (zL NP);omega)
  refine qi x64 1 Vo Ha (Int.toNat_of_nonneg (show 0≤x64∧x64 <((px).length:Int) from (ah1 _ (zL NP))).1).symm fun b66 axW=>pg 0 [0] L61 (fun s _ hZ=>cK Vo axW hZ Ha)<|aV 12 fun ac8 adU J5=>jc (vs:=[zP d,zI ((cs.length:Int)-1)]) [4] (EV hN hJ.2.2.2 (by omega)) ?_
  rintro _ X73 ⟨w73,rfl,aFb,abp,ai6⟩
  refine gM J5 [[1],[6],[7]]<|zD 1<|aV 15 fun aqd aqx VQ=>jd 1 [2]<|gq VQ<|zD 1<|bI hK8 ⟨Ak,w73,_,x66,X73⟩ ⟨NP,Ha,(by dsimp only;omega),ai6⟩ Nat.zero_lt_one [2,3,4,0,5,6,7,8] (Sub.refl _)
 refine jd 5 [4] ?_
 obtain⟨adF,adz,ais⟩:=hI.2.1.form
 subst ais
 obtain⟨aMA,aMh,aR2⟩:=hJ.2.1.form
 subst aR2
 refine jd 3 [6]<|zR (.agg ⟨[(.slice adF (cs).length adz),(.slice aMA (hv).length aMh)]⟩) [6] [3,0,1,2] (LC++(LH++(Z++X))) ⟨cs,hv,hd,_,_,LC++(LH++Z),X,rfl,aag hI.2.2.1 Ry (by omega) hJ.2.2.1 (by omega) (by omega) wx ah1,hJ.2.2.1.2.2.2.2,fun aI hk=>⟨hI.2.1.kg hk.left,hJ.2.1.kg hk.right.left,hJ.2.2.1.1 aI hk.right.right⟩,by simp only[List.append_assoc],hJ.2.2.2⟩
abbrev fH(x:Value):List Value:=[x]
structure ai where
 n:Int
 l:Int
abbrev cL(x:ai):List Value:=[zI x.n,zI x.l]
def ane(x y:ai):Prop:=x.n <y.n∨(x.n=y.n∧x.l <y.l)
def BC(x:ai):Prop:=(1≤x.n∧x.n≤9)∧0≤x.l∧x.l≤4
structure eV(S:List (List ai)):Prop where
 two:S.length=2
 len:∀l∈S,l.length≤4
 ok:∀l∈S,∀x∈l,BC x
 asc:∀l∈S,l.Pairwise ane
def yT:List (List ai):=[[⟨1,0⟩,⟨2,0⟩],[⟨1,0⟩,⟨3,0⟩]]
def cX(ro:Nat→Option Obj)(v:Value)(S:List (List ai)):Prop:=∃ws,bD ro v 1 fH ws∧de (fun w l=>bD ro w 2 cL l) ws S
def nO(ro:Nat→Option Obj)(v:Value)(ways:List (List aO)):Prop:=∃ws,bD ro v 1 fH ws∧de (fun w l=>bD ro w 7 kM l) ws ways
theorem cX.up{v:Value}{S:List (List ai)}(h:cX ro v S)(hs:Sub ro aG):cX aG v S:=by
 obtain⟨ws,h1,h2⟩:=h
 exact⟨ws,h1.up hs,h2.imp fun _ _ k=>k.up hs⟩
theorem nO.up{v:Value}{w:List (List aO)}(h:nO ro v w)(hs:Sub ro aG):nO aG v w:=by
 obtain⟨ws,h1,h2⟩:=h
 exact⟨ws,h1.up hs,h2.imp fun _ _ k=>k.up hs⟩
theorem jh.up{hv:List bw}(h:jh ro vc vh cs hv hd)(hs:Sub ro aG):jh aG vc vh cs hv hd:=
 ⟨h.1.up hs,h.2.1.up hs,h.2.2.imp fun _ _ k=>⟨k.1,k.2.1,k.2.2.1,k.2.2.2.up hs⟩⟩
structure aB where
 ways:List (List aO)
 cs:List bO
 hd:List cy
 rules:List bQ
 before:List aA
 after:List aA
 gone:Int
 new:Int
 af:Int
 facts:List cu
 str:List (List ai)
def fI(ro:Nat→Option Obj)(l:List Value)(k:aB):Prop:=∃(vS vT vc vh vr vb va vf:Value) (fa:Option Addr) (fc:Nat) (hv:List bw),
 l=[vS,vT,.slice fa 0 fc,vc,vh,vr,vb,va,zI k.gone,zI k.new,zI k.af,vf]∧cX ro vS k.str∧nO ro vT k.ways∧jh ro vc vh k.cs hv k.hd∧de dr hv k.hd∧
 bD ro vr 2 iF k.rules∧bD ro vb 5 eF k.before∧bD ro va 5 eF k.after∧bD ro vf 3 mX k.facts
def nT(hd:List cy)(i:Int):Prop:=i= -1∨(0≤i∧∃x,hd[i.toNat]?=some x∧0≤x.cls)
def BD(hd:List cy)(p:aA):Prop:=OU p.name∧nT hd p.head∧(0≤p.st∧p.st≤1)∧p.bold=false
def ak5(hd:List cy)(p:aA):Prop:=BD hd p∧(p.st=0→p.no=1∨p.no=2)∧(p.st=1→p.no=1∨p.no=3)
def ak6(hd:List cy)(p:aA):Prop:=BD hd p∧1≤p.no∧p.no≤3
def FB(hd:List cy)(p:aA):Prop:=((1≤p.name.size∧p.name.size≤6)∧Script p.name)∧nT hd p.head∧(0≤p.st∧p.st≤1)∧p.bold=false
def apX(S:List (List ai))(hd:List cy)(p:aA):Prop:=FB hd p∧∃l,S[p.st.toNat]?=some l∧(⟨p.no,0⟩:ai)∈l
def aJq(hd:List cy)(p:aA):Prop:=FB hd p∧1≤p.no∧p.no≤40
structure ZR(cs:List bO)(hd:List cy):Prop where
 nc:0 <cs.length∧cs.length≤6
 nh:hd.length≤6
 A8:∀(i:Nat) (x:cy),hd[i]?=some x→gF cs.length hd.length i x
structure jv(k:aB):Prop where
 oO:eV k.str
 ways:k.ways.length≤1∧∀l∈k.ways,(1≤l.length∧l.length≤2)∧∀c∈l,jz c
 da:ZR k.cs k.hd
 rules:k.rules.length≤4
 before:k.before.length≤4∧∀p∈k.before,apX k.str k.hd p
 after:k.after.length≤4∧∀p∈k.after,aJq k.hd p
 ud:(0≤k.gone∧k.gone≤4)∧(0≤k.new∧k.new≤4)∧(0≤k.af∧k.af≤4)
 facts:k.facts.length≤4∧(∀x∈k.facts,(0≤x.a∧x.a <k.before.length)∧(0≤x.b∧x.b <k.after.length))
 apart:k.facts.Pairwise fun x y=>¬(x.a=y.a∧x.b=y.b)
structure Tb(k:aB):Prop where
 ways:k.ways.length≤1∧∀l∈k.ways,(1≤l.length∧l.length≤2)∧∀c∈l,jz c
 da:xa k.cs k.hd
 rules:k.rules.length≤2∧∀r∈k.rules,IZ r
 before:k.before.length≤4∧∀p∈k.before,ak5 k.hd p
 after:k.after.length≤4∧∀p∈k.after,ak6 k.hd p
 ud:(0≤k.gone∧k.gone≤4)∧(0≤k.new∧k.new≤4)∧(0≤k.af∧k.af≤4)
 facts:k.facts.length≤4∧(∀x∈k.facts,(0≤x.a∧x.a <k.before.length)∧(0≤x.b∧x.b <k.after.length))
 apart:k.facts.Pairwise fun x y=>¬(x.a=y.a∧x.b=y.b)
 str:k.str=yT
theorem aaR:eV yT where
 two:=rfl
 len:=by simp[yT]
 ok:=by simp[yT,BC]
 asc:=by simp[yT,ane]
theorem BD.c{p:aA}(h:BD hd p):FB hd p:=⟨⟨⟨h.1.1.1,by have:=h.1.1.2;omega⟩,h.1.2⟩,h.2⟩
theorem Tb.c{k:aB}(h:Tb k):jv k where
 oO:=by rw[h.str];exact aaR
 ways:=h.ways
 da:=⟨⟨h.da.nc.1,by have:=h.da.nc.2;omega⟩,by have:=h.da.nh;omega,fun i x hx=>(h.da.A8 i x hx).2⟩
 rules:=by have:=h.rules.1;omega
 before:=⟨by have:=h.before.1;omega,fun p hp=>by
  obtain⟨h1,h2,h3⟩:=h.before.2 p hp
  refine⟨h1.c,?_⟩
  rw[h.str]
  have h4:=h1.2.2.1
  rcases(by omega:p.st=0∨p.st=1) with e|e
  ·rw[e];exact⟨_,rfl,by rcases h2 e with e2|e2<;>simp[e2]⟩
  rw[e];exact⟨_,rfl,by rcases h3 e with e2|e2<;>simp[e2]⟩⟩
 after:=⟨by have:=h.after.1;omega,fun p hp=>by
  obtain⟨h1,h2,h3⟩:=h.after.2 p hp
  exact⟨h1.c,h2,by omega⟩⟩
 ud:=h.ud
 facts:=⟨by have:=h.facts.1;omega,h.facts.2⟩
 apart:=h.apart
theorem xC{hv:List bw}(h:de dr hv hd){i:Int}(k:i= -1∨W9 hv i):nT hd i:=by
 rcases k with k| ⟨k0,x,k1,k2⟩
 ·exact .inl k
 obtain⟨y,h1,h2⟩:=h.get k1
 exact .inr ⟨k0,y,h1,h2.2.1▸k2⟩
theorem T7{c e:Nat}(h1:ro b=some (.cells ⟨[zI 1,zI 0,zI 2,zI 0]⟩ 79 (0,0)))(h2:ro c=some (.cells ⟨[zI 1,zI 0,zI 3,zI 0]⟩ 79 (0,0)))
 (h3:ro e=some (.cells ⟨[.slice (some ⟨b,0,none⟩) 2 2,.slice (some ⟨c,0,none⟩) 2 2]⟩ 80 (0,0))):cX ro (.slice (some ⟨e,0,none⟩) 2 2) yT:=
 ⟨_,bU [_,_] h3 (fun _ _=>rfl),.cons (bU [(⟨1,0⟩:ai),⟨2,0⟩] h1 (fun _ _=>rfl)) (.cons (bU [(⟨1,0⟩:ai),⟨3,0⟩] h2 (fun _ _=>rfl)) .nil)⟩
def BE(nb na:Nat)(fs:List cu):Prop:=(∀x∈fs,(0≤x.a∧x.a <nb)∧(0≤x.b∧x.b <na))∧fs.Pairwise fun x y=>¬(x.a=y.a∧x.b=y.b)
theorem BE.snoc{nb na:Nat}(h:BE nb na fs){x:cu}(ha:0≤x.a∧x.a <nb)(hb:0≤x.b∧x.b <na)(hn:Dr fs x.a x.b=false):BE nb na (fs++[x]):=by
 refine⟨qJ h.1 ⟨ha,hb⟩,List.pairwise_append.2 ⟨h.2,List.pairwise_singleton _ _,fun y hy z hz e=>?_⟩⟩
 rw[List.mem_singleton] at hz;subst hz
 have:=List.any_eq_false.1 hn y hy
 simp[e.1,e.2] at this
theorem au5{w u:Int}(h:w∈[1,2,4,u])(hu:0≤u∧u≤4):0≤w∧w≤4:=by
 simp only[List.mem_cons,List.not_mem_nil,or_false] at h
 omega
theorem Ua:nO ro (zS) []:=⟨[],bD.nil _ _ _ _ _,.nil⟩
end Go.L
