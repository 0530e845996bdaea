/- Part 6 of the proof. -/
import Derived.Test.YtknkndglfcfhkaaGreatDoorW5
import Derived.KernelRfl
import Derived.Lib.UnsafeStr
import Derived.Test.YtknkndglfcfhkaaGreatDoorProg
set_option maxRecDepth 100000
set_option linter.all false
namespace Go.L
open Go Go.Conc
variable {ro pW aJ:Nat→Option Obj} {α β κ:Type} {xs al ys:List Int} {Φ:Value→Cells→Prop} {vd vm vc vh s0 s1 s2 t0 t1 ru vb va:Value} {X fr Z:Cells} {o:Option JS} {i k d sz b ck nc nh bE it:Nat} {args:List Value} {f:FuncId} {P:Program} {seen:List Nat} {n many r lo hi af gone new:Int} {R:Ending→St→Prop} {E T:TypeId} {nm:ByteArray} {ag:Bool}
def u7(r ck:Nat)(seen:List Nat):Obj:= .mapIter (some r) ck ⟨seen⟩ ck
def cO(es:Array MapEntry)(seen:List Nat):List MapEntry:=es.toList.filter fun e=> !seen.contains e.born
theorem C9(es:Array MapEntry):cO es []=es.toList:=by simp[cO]
theorem abS{es:Array MapEntry}{e:MapEntry}:e∈cO es (seen++[b])↔e∈cO es seen∧e.born≠b:=by
 simp only[cO,List.mem_filter,Bool.not_eq_true',List.contains_eq_mem,List.mem_append,List.mem_singleton,decide_eq_false_iff_not,not_or,and_assoc]
theorem Hw{es:Array MapEntry}{e:MapEntry}(h:e∈cO es seen):(cO es (seen++[e.born])).length <(cO es seen).length:=by
 have:cO es (seen++[e.born])=(cO es seen).filter fun x=> !decide (x.born=e.born):=by
  simp only[cO,List.filter_filter]
  refine List.filter_congr fun x _=>?_
  simp only[List.contains_eq_mem,List.mem_append,List.mem_singleton,Bool.decide_or,Bool.not_or]
  rw[Bool.and_comm]
 rw[this]
 exact List.length_filter_lt_length_iff_exists.2 ⟨e,h,by simp⟩
def mrV(P:Program)(n:Nat)(p:Oper)(e:Env):Option Value:=match p.op with
 | .range T x=>match a8 P T with
  |some ⟨.map _ _,_,_,_⟩=>bu n e x
  |_=>none
 |_=>none
def nmV(n:Nat)(p:Oper)(e:Env):Option Value:=match p.op with
 | .next x false=>bu n e x
 |_=>none
def enV(n:Nat)(p:Oper)(e:Env):Option Value:=match p.op with
 | .entry x=>bu n e x
 |_=>none
theorem Le{s:St}{Q:β→St→Prop}{E:Halt→St→Prop}{n:Nat}{k:Nat→Sem β}(hn:0 <n)(h:∀j,j <n→bS P (k j) s Q E):bS P (choose (.mapNext n) >>= k) s Q E:=by
 show (if (Question.mapNext n).forced=true then _ else _)
 split
 ·exact h 0 hn
 exact fun q=>h _ (Nat.mod_lt _ hn)
section
variable {X:Cx} {o:Option JS}
theorem jmR{r:Nat}{es:Array MapEntry}(hm:X.ro r=some (.map es ck))(hj:∀b,J X (nA [] (.pointer (some ⟨b,0,none⟩)) [(b,u7 r ck [])] o))(hv:eY X.n (mrV X.P X.n) o=some (.map (some r)):=by kernel_rfl)(hB:dS [] o=some []:=by kernel_rfl):J X o:=by
 refine jS (Φ:=fun v L'=>∃b,v= .pointer (some ⟨b,0,none⟩)∧L'=[(b,u7 r ck [])]) [] [] hv hB (fun p e hf=>?_) (fun v L' qH=>?_)
 ·unfold mrV at hf
  split at hf<;>try (cases hf;done)
  rename_i T x az
  split at hf<;>try (cases hf;done)
  rename_i dQ
  obtain⟨bE,tf⟩:=aw dQ
  refine⟨by rw[az];simp,fun R Q E hQ=>?_⟩
  simp only[execOp,az,Instr.range,aa,ba tf,aG hf]
  refine cJ (.inl hm) rfl rfl ?_
  simp only[aa,ae,oK]
  intro b hb
  exact hQ _ _ ⟨b,rfl,rfl⟩
 obtain⟨b,rfl,rfl⟩:=qH
 exact hj b
theorem jmN{kv:κ→Value}{F:List (κ×Value)}{r:Nat}{es:Array MapEntry}(i:Nat)(hm:X.ro r=some (.map es ck))(hE:tS kv F es ck)
 (hT:∀k v e,(k,v)∈F→e∈cO es seen→e.key=kv k→e.val=v→J X (nA [i] (.tuple ⟨[.bool true,kv k,v]⟩) [(it,u7 r ck (seen++[e.born]))] o))
 (hF:cO es seen=[]→J X (nA [i] (.tuple ⟨[.bool false]⟩) [(it,u7 r ck seen)] o))
 (hv:eY X.n (nmV X.n) o=some (.pointer (some ⟨it,0,none⟩)):=by kernel_rfl)(hB:dS [i] o=some [(it,u7 r ck seen)]:=by kernel_rfl):J X o:=by
 refine jS (Φ:=fun v L'=>(∃e,e∈cO es seen∧v= .tuple ⟨[.bool true,e.key,e.val]⟩∧L'=[(it,u7 r ck (seen++[e.born]))])∨(cO es seen=[]∧v= .tuple ⟨[.bool false]⟩∧L'=[(it,u7 r ck seen)])) [i] _ hv hB (fun p e hf=>?_) (fun v L' qH=>?_)
 ·unfold nmV at hf
  split at hf<;>try (cases hf;done)
  rename_i x az
  refine⟨by rw[az];simp,fun R Q E hQ=>?_⟩
  simp only[execOp,az,Instr.next,aa,aG hf]
  have hs:(⟨X.ro,[(it,u7 r ck seen)]++R⟩:St).rw=[]++(it,u7 r ck seen)::R:=rfl
  refine cJ (o:=u7 r ck seen) (.inr (by rw[hs];exact fA)) rfl rfl ?_
  simp only[u7,aa]
  refine cJ (.inl hm) rfl rfl ?_
  simp only[aa]
  have hb:=hE.2.2
  have bW:¬((!(⟨seen⟩:Array Nat).isEmpty&& !es.isEmpty&&es.all (·.born≥ck))=true):=by
   intro h
   simp only[Bool.and_eq_true,Bool.not_eq_true',Array.all_eq_true,decide_eq_true_eq] at h
   obtain⟨⟨_,h1⟩,h2⟩:=h
   have uI:0 <es.size:=by
    rcases Nat.eq_zero_or_pos es.size with h0|h0
    ·simp[Array.isEmpty,h0] at h1
    exact h0
   have:=h2 0 uI
   have:=hb es[0] (by simp)
   omega
  rw[if_neg bW]
  have yM:(es.filter fun e=> !(⟨seen⟩:Array Nat).contains e.born)=⟨cO es seen⟩:=by
   rcases es with ⟨l⟩
   simp[cO]
  have hold:((⟨cO es seen⟩:Array MapEntry).filter fun e=>decide (e.born <ck))=⟨cO es seen⟩:=by
   have:(cO es seen).filter (fun e=>decide (e.born <ck))=cO es seen:=List.filter_eq_self.2 fun e he=>decide_eq_true (hb e (List.mem_filter.1 he).1)
   simp[this]
  have tG:((⟨cO es seen⟩:Array MapEntry).filter fun e=>decide (e.born≥ck))=⟨[]⟩:=by
   have:(cO es seen).filter (fun e=>decide (e.born≥ck))=[]:=List.filter_eq_nil_iff.2 fun e he=>by
    have:=hb e (List.mem_filter.1 he).1
    simp only[decide_eq_true_eq];omega
   simp[this]
  simp only[yM,hold,tG]
  cases hl:cO es seen with
  |nil=>
   simp only[List.isEmpty_toArray,List.isEmpty_nil,if_true]
   refine Le (by simp) fun j hj=>?_
   have hc:(#[(none:Option MapEntry)]++((⟨[]⟩:Array MapEntry)++⟨[]⟩).map some)[j]?=some none:=by
    simp at hj
    subst hj;simp
   show bS X.P ((match (#[(none:Option MapEntry)]++((⟨[]⟩:Array MapEntry)++⟨[]⟩).map some)[j]? with|some (some e)=>_|some none=>_|none=>_) >>= fun v=>pure (Next.value v)) _ _ _
   rw[hc]
   exact hQ _ _ (.inr ⟨hl,rfl,rfl⟩)
  |cons e0 l=>
   have hem:(⟨e0::l⟩:Array MapEntry).isEmpty=false:=by simp
   simp only[hem,Bool.false_eq_true,if_false]
   have Ik:(#[]++((⟨e0::l⟩:Array MapEntry)++⟨[]⟩).map some:Array (Option MapEntry))=⟨(e0::l).map some⟩:=by simp
   rw[Ik]
   refine Le (by simp) fun k cP=>?_
   have cP:k <(e0::l).length:=by simpa using cP
   have hk:(⟨(e0::l).map some⟩:Array (Option MapEntry))[k]?=some (some (e0::l)[k]):=by
    rw[List.getElem?_toArray,List.getElem?_map,List.getElem?_eq_getElem cP];rfl
   show bS X.P ((match (⟨(e0::l).map some⟩:Array (Option MapEntry))[k]? with|some (some e)=>_|some none=>_|none=>_) >>= fun v=>pure (Next.value v)) _ _ _
   rw[hk]
   simp only[aa]
   have ny:(⟨X.ro,[(it,Obj.mapIter (some r) ck ⟨seen⟩ ck)]++R⟩:St).rw=[]++(it,Obj.mapIter (some r) ck ⟨seen⟩ ck)::R:=rfl
   refine eB (o:= .mapIter (some r) ck ((⟨seen⟩:Array Nat).push (e0::l)[k].born) ck) rfl ny rfl ?_
   have hp:(⟨seen⟩:Array Nat).push (e0::l)[k].born=⟨seen++[(e0::l)[k].born]⟩:=by simp
   rw[hp]
   have:=hQ (.tuple ⟨[.bool true,(e0::l)[k].key,(e0::l)[k].val]⟩) [(it,u7 r ck (seen++[(e0::l)[k].born]))] (.inl ⟨_,by rw[hl];exact List.getElem_mem cP,rfl,rfl⟩)
   exact this
 rcases qH with ⟨e,he,rfl,rfl⟩| ⟨h1,rfl,rfl⟩
 ·have:(e.key,e.val)∈F.map (fun x=>(kv x.1,x.2)):=by
   rw[←hE.1];exact List.mem_map_of_mem (f:=fun e:MapEntry=>(e.key,e.val)) (List.mem_filter.1 he).1
  obtain⟨⟨k,v⟩,h1,h2⟩:=List.mem_map.1 this
  simp only[Prod.mk.injEq] at h2
  have:=hT k v e h1 he h2.1.symm h2.2.symm
  rwa[h2.1,h2.2] at this
 exact hF h1
theorem jmE{kv:κ→Value}{F:List (κ×Value)}{r:Nat}{es:Array MapEntry}{e:MapEntry}{k:κ}{v:Value}(i:Nat)(hm:X.ro r=some (.map es ck))(hE:tS kv F es ck)(he:e∈cO es seen)(hk:e.key=kv k)(hvl:e.val=v)
 (hj:J X (nA [i] (.tuple ⟨[kv k,v]⟩) [(it,u7 r ck (seen++[e.born]))] o))
 (hv:eY X.n (enV X.n) o=some (.pointer (some ⟨it,0,none⟩)):=by kernel_rfl)(hB:dS [i] o=some [(it,u7 r ck (seen++[e.born]))]:=by kernel_rfl):J X o:=by
 refine jS (Φ:=fun w L'=>w= .tuple ⟨[kv k,v]⟩∧L'=[(it,u7 r ck (seen++[e.born]))]) [i] _ hv hB (fun p en hf=>?_) (fun w L' qH=>?_)
 ·unfold enV at hf
  split at hf<;>try (cases hf;done)
  rename_i x az
  refine⟨by rw[az];simp,fun R Q E hQ=>?_⟩
  simp only[execOp,az,Instr.entry,aa,aG hf]
  have hs:(⟨X.ro,[(it,u7 r ck (seen++[e.born]))]++R⟩:St).rw=[]++(it,u7 r ck (seen++[e.born]))::R:=rfl
  refine cJ (o:=u7 r ck (seen++[e.born])) (.inr (by rw[hs];exact fA)) rfl rfl ?_
  have sO:(⟨seen++[e.born]⟩:Array Nat).back?=some e.born:=by simp[Array.back?]
  simp only[u7,sO,aa]
  refine cJ (.inl hm) rfl rfl ?_
  have hfe:es.find? (fun x=>x.born==e.born)=some e:=by
   rcases es with ⟨l⟩
   have hel:e∈l:=(List.mem_filter.1 he).1
   have mo:(l.map (·.born)).Nodup:=hE.2.1
   simp only[List.find?_toArray]
   clear hm hE he hj hv hB hs hQ
   induction l with
   |nil=>cases hel
   |cons y l ih=>
    simp only[List.map_cons,List.nodup_cons,List.mem_map,not_exists,not_and] at mo
    rcases List.mem_cons.1 hel with rfl|h
    ·simp
    have:y.born≠e.born:=fun h2=>mo.1 e h h2.symm
    rw[List.find?_cons_of_neg (by simpa using this)]
    exact ih h mo.2
  simp only[bne_self_eq_false,Bool.false_eq_true,if_false,hfe,ae,aa]
  exact hQ _ _ ⟨by rw[hk,hvl],rfl⟩
 obtain⟨rfl,rfl⟩:=qH
 exact hj
end
theorem Vs{kv:κ→Value}{F:List (κ×Value)}{es:Array MapEntry}(hE:tS kv F es ck){e x:MapEntry}(he:e∈cO es seen)(hx:x∈cO es seen):x=e∨x∈cO es (seen++[e.born]):=by
 by_cases h:x.born=e.born
 ·left
  have mo:=hE.2.1
  have h1:=(List.mem_filter.1 he).1
  have h2:=(List.mem_filter.1 hx).1
  generalize es.toList=l at mo h1 h2
  induction l with
  |nil=>cases h1
  |cons y l ih=>
   simp only[List.map_cons,List.nodup_cons,List.mem_map,not_exists,not_and] at mo
   rcases List.mem_cons.1 h1 with k1|k1
   ·rcases List.mem_cons.1 h2 with k2|k2
    ·rw[k1,k2]
    exact absurd (by rw[h,k1]) (mo.1 x k2)
   rcases List.mem_cons.1 h2 with k2|k2
   ·exact absurd (by rw[←h,k2]) (mo.1 e k1)
   exact ih mo.2 k1 k2
 exact .inr (abS.2 ⟨hx,h⟩)
def msV(P:Program)(n:Nat)(p:Oper)(e:Env):Option (TypeId×List Value):=match p.op with
 | .makeSlice T x y=>match a8 P T with
  |some ⟨.slice E,_,_,_⟩=>match a8 P E with
   |some te=>match bu n e x,bu n e y with
    |some (.int .i64 a),some (.int .i64 b)=>bif (decide (a=2)&&decide (b=2))&&(Nat.beq te.size 1&&Nat.ble (tY P E) 65536) then some (E,te.zero) else none
    |_,_=>none
   |none=>none
  |_=>none
 |_=>none
theorem jmS{X:Cx}{z:Value}(hj:∀b,J X (nA [] (.slice (some ⟨b,0,none⟩) 2 2) [(b,.cells ⟨[z,z]⟩ E (0,0))] o))(hv:eY X.n (msV X.P X.n) o=some (E,[z]):=by kernel_rfl)(hB:dS [] o=some []:=by kernel_rfl):J X o:=by
 refine jS (Φ:=fun v L'=>∃b,v= .slice (some ⟨b,0,none⟩) 2 2∧L'=[(b,.cells ⟨[z,z]⟩ E (0,0))]) [] [] hv hB (fun p e hf=>?_) (fun v L' qH=>?_)
 ·unfold msV at hf
  split at hf<;>try (cases hf;done)
  rename_i T x y az
  split at hf<;>try (cases hf;done)
  rename_i E' _ _ _ dQ
  split at hf<;>try (cases hf;done)
  rename_i te uG
  split at hf<;>try (cases hf;done)
  rename_i a b hx hy
  cases hc:((decide (a=2)&&decide (b=2))&&(Nat.beq te.size 1&&Nat.ble (tY X.P E') 65536)) with
  |false=>rw[hc] at hf;cases hf
  |true=>
   rw[hc] at hf
   simp only[cond_true,Option.some.injEq,Prod.mk.injEq] at hf
   obtain⟨rfl,hz⟩:=hf
   simp only[Bool.and_eq_true,decide_eq_true_eq,Nat.beq_eq,Nat.ble_eq] at hc
   obtain⟨⟨rfl,rfl⟩,uI,hby⟩:=hc
   obtain⟨byT,tf⟩:=aw dQ
   obtain⟨bE,jV⟩:=aw uG
   obtain⟨i,hi,hi1,SE,hi3⟩:=jV.info
   have apa:bE≤65536:=by simp only[tY,hi] at hby;omega
   have ax3:¬((bE:Int)*2>2^48):=by omega
   have w2:IntKind.i64.wrap 2=2:=kJ 2 (by omega)
   have iR:(Qn [z] te.agg).cells=⟨[z]⟩:=by rw[←hz];exact ei jV
   have Ik:((Array.range ((2:Int).toNat*1)).map fun x=>(⟨[z]⟩:Array Value)[x % (⟨[z]⟩:Array Value).size]!)=⟨[z,z]⟩:=by apply Array.ext';simp[Nat.mod_one,List.range,List.range.loop]
   refine⟨by rw[az];simp,fun R Q E hQ=>?_⟩
   simp only[execOp,az,Instr.makeSlice,aG hx,aG hy,asInt,asIntOf,aa,ba tf,ae,nM hi,SE,w2,ax3,show ¬((2:Int) <0) by omega,show ¬((2:Int)>2) by omega,decide_false,Bool.or_self,Bool.false_eq_true,if_false]
   refine s9 ?_
   simp only[aa,cz jV,uI,show ¬((2:Int).toNat*1=0) by decide,if_false,ko jV,ae,hz,iR,Ik,jD]
   intro b hb
   exact hQ _ _ ⟨b,rfl,rfl⟩
 obtain⟨b,rfl,rfl⟩:=qH
 exact hj b
def ap5(body:Code):Option JS→Option (JS×Nat)
 |some ⟨.fin .normal,e,.b c oc:: .b b (.loop r)::w,kn⟩=>match r.state with
  | .ready=>some (⟨.code body [],e,.b c oc:: .b b (.loop {r with state:= .busy})::w,kn⟩,b)
  |_=>none
 |_=>none
theorem aET{X:Cx}{bl:Nat}{body:Code}(h:J (X.re bl ro Φ) (Fu (ap5 body o)))(h1:UI (ap5 body o)=some bl:=by kernel_rfl):J (X.rd bl ro Φ body) o:=by
 unfold ap5 at h h1
 split at h<;>try (unfold Fu at h;exact h.elim)
 rename_i e c oc b r w kn
 split at h<;>try (unfold Fu at h;exact h.elim)
 rename_i bW
 unfold UI at h1
 unfold Fu at h
 simp only[bW,Option.some.injEq] at h1
 subst h1
 intro bY
 have hw:=h bY
 simp only[JP,Cx.rd,Jk,DT]
 refine⟨[(c,oc)],r,den w,by rw[iK,iK];rfl,bW,?_⟩
 simp only[JP,iK] at hw
 exact hw
theorem aEQ{hm:P.follows .mixedOrders=true}(own:List Sg)(kn:Cells)(hk:Knows ro kn)(h:J (XM P hm f ro R) (jI P f args own kn)):Fn (CP P) P f ⟨args⟩ ⟨ro,den own⟩ R:=by
 unfold jI at h
 split at h<;>try exact h.elim
 rename_i fn hf
 split at h<;>try exact h.elim
 rename_i c hc
 cases hl:Nat.ble args.length fn.ntmps with
 |false=>rw[hl] at h;exact h.elim
 |true=>
  rw[hl] at h
  have u9:qW P f=fn:=by simp only[qW,hf]
  have:=h hk
  simp only[JP,XM,KQ,u9] at this
  refine MZ eP hf hc ?_
  have he:=kT args fn.ntmps (Nat.le_of_ble_eq_true hl)
  rw[←he] at this
  exact this
section
variable {X:Cx} {o:Option JS}
theorem aOy{uV:List Nat}(hq:QM X R uV)(v:Value)(pm hs ps:List Nat)(Y:Cells)(fD:Sub pW X.ro)(hR:R (.returned v) ⟨pW,Y⟩)(h0:dS pm o=some (mk uV):=by kernel_rfl)(h1:rB (iy X.P X.n X.fn hs (Dz pm o))=some v:=by kernel_rfl)(h2:Qk (iy X.P X.n X.fn hs (Dz pm o))=Qj (iy X.P X.n X.fn hs (Dz pm o)):=by kernel_rfl)(h3:dS ps (Dz pm o)=some Y:=by kernel_rfl)(h4:Ar o=true:=by kernel_rfl):J X o:=by
 obtain⟨ex,e,w,kn,rfl,hex⟩:=tL h4
 simp only[Dz,iy] at h1 h2 h3
 cases hr:CC X.P X.n e (dI pm 0 w) kn.c hs (qW X.P X.fn).results.toList with
 |none=>simp only[hr,rB] at h1;cases h1
 |some x=>
  rcases x with ⟨vs,q⟩
  simp only[hr,rB,Option.some.injEq,Qk,Qj] at h1 h2
  intro bY
  have sN:=uf bY hr (mv h2)
  have hp:=bN h3
  have FU:=Q3 (s0:=⟨pW,Y⟩) (R:=R) hex sN h1 (dP hp fD) hR
  have ht:bS X.P (results (qW X.P X.fn) (A X.n e X.D).tmps) ⟨X.ro,den (dI pm 0 w)⟩ (fun v s'=>∃s0,s0.le s'∧R (.returned v) s0) (fun _ _=>False):=by
   rcases hex with rfl|rfl<;>exact FU.2
  show X.Q ex (A X.n e X.D) ⟨X.ro,den w⟩
  rw[hq.q]
  have hm:∃uV rest,(A X.n e X.D).defers=uV.map ek∧(den w).Perm (mk uV++rest)∧bS X.P (results (qW X.P X.fn) (A X.n e X.D).tmps) ⟨X.ro,rest⟩ (fun v s'=>∃s0,s0.le s'∧R (.returned v) s0) (fun _ _=>False):=⟨uV,_,hq.d,bN h0,ht⟩
  rcases hex with rfl|rfl<;>exact hm
end
attribute [irreducible] mrV nmV enV u7 msV ap5
def rnM(P:Program):Sem α→List Nat→Cells→List (Nat×Nat)→Option (α×Cells×List (Nat×Nat))
 | .pure a,_,B,q=>some (a,B,q)
 | .load m a k,h::hs,B,q=>match m,a.spot,B[h]? with
  | .plain,none,some (b,.cells c _ _)=>match c[a.off]? with
   |some v=>rnM P (k v) hs B ((a.block,b)::q)
   |none=>none
  |_,_,_=>none
 | .shape r k,h::hs,B,q=>match B[h]? with
  |some (b,o)=>rnM P (k (Obj.shapeOf o)) hs B ((r,b)::q)
  |none=>none
 | .program k,hs,B,q=>rnM P (k P) hs B q
 |_,_,_,_=>none
theorem aui:∀(m:Sem α) {hs:List Nat} {B B':Cells} {q q':List (Nat×Nat)} {v:α},rnM P m hs B q=some (v,B',q')→(∀p∈q',p.1=p.2)→
 (∀p∈q,p∈q')∧B'=B∧∀(s:St) (Q:α→St→Prop) (E:Halt→St→Prop),(∀x∈B,s.has x.1 x.2)→Q v s→bS P m s Q E:=by
 intro m
 induction m with
 |pure a=>intro hs B B' q q' v h _;simp only[rnM,Option.some.injEq,Prod.mk.injEq] at h;obtain⟨rfl,rfl,rfl⟩:=h;exact⟨fun _ h=>h,rfl,fun _ _ _ _ h=>h⟩
 |load m a k ih=>
  intro hs B B' q q' v h hq
  cases hs with
  |nil=>cases h
  |cons j hs=>
   unfold rnM at h
   split at h<;>try (cases h;done)
   rename_i b c t fz P8 hB
   split at h<;>try (cases h;done)
   rename_i u hu
   obtain⟨h1,h2,h3⟩:=ih _ h hq
   have xZ:a.block=b:=hq _ (h1 _ List.mem_cons_self)
   refine⟨fun p hp=>h1 p (List.mem_cons_of_mem _ hp),h2,fun s Q E hs hQ=>⟨rfl,P8,c,t,fz,u,?_,hu,h3 s Q E hs hQ⟩⟩
   rw[xZ];exact hs _ (List.mem_of_getElem? hB)
 |shape r k ih=>
  intro hs B B' q q' v h hq
  cases hs with
  |nil=>cases h
  |cons j hs=>
   simp only[rnM] at h
   split at h<;>try (cases h;done)
   rename_i b o hB
   obtain⟨h1,h2,h3⟩:=ih _ h hq
   have xZ:r=b:=hq _ (h1 _ List.mem_cons_self)
   refine⟨fun p hp=>h1 p (List.mem_cons_of_mem _ hp),h2,fun s Q E hs hQ=>⟨o,?_,h3 s Q E hs hQ⟩⟩
   rw[xZ];exact hs _ (List.mem_of_getElem? hB)
 |program k ih=>
  intro hs B B' q q' v h hq
  simp only[rnM] at h
  exact ih _ h hq
 |store=>intro hs B B' q q' v h hq;cases hs<;>cases h
 |new=>intro hs B B' q q' v h hq;cases hs<;>cases h
 |freeze=>intro hs B B' q q' v h hq;cases hs<;>cases h
 |frozen=>intro hs B B' q q' v h hq;cases hs<;>cases h
 |getObj=>intro hs B B' q q' v h hq;cases hs<;>cases h
 |setObj=>intro hs B B' q q' v h hq;cases hs<;>cases h
 |choose=>intro hs B B' q q' v h hq;cases hs<;>cases h
 |sys=>intro hs B B' q q' v h hq;cases hs<;>cases h
 |mark=>intro hs B B' q q' v h hq;cases hs<;>cases h
 |halt=>intro hs B B' q q' v h hq;cases hs<;>cases h
def ae2:Op→Option (List Operand)
 | .call ⟨.builtin _,xs,_⟩=>some xs.toList
 |op=>G6 op
theorem QZ{o:Oper}{xs:List Operand}(h:ae2 o.op=some xs){f g:Operand→Value}(hfg:∀x∈xs,f x=g x):execOp f o=execOp g o:=by
 unfold ae2 at h
 split at h
 ·rename_i b xs at_ heq
  simp only[Option.some.injEq] at h;subst h
  have:xs.map f=xs.map g:=Array.map_congr_left fun a ha=>hfg a (by simpa using ha)
  simp only[execOp,heq,resolve,this]
 exact uj h hfg
def smV(P:Program)(n:Nat)(hs:List Nat)(B:Cells)(p:Oper)(e:Env):Option (Value×List (Nat×Nat)):=match ae2 p.op with
 |some xs=>match yC n e xs with
  |some _=>match rnM P (execOp (evj n e) p) hs B [] with
   |some (.value v,_,q)=>some (v,q)
   |_=>none
  |none=>none
 |none=>none
theorem Ct{γ:Type}{n:Nat}{f:Oper→Env→Option β}{g:β→γ}:eY n (fun p e=>(f p e).map g) o=(eY n f o).map g:=by
 unfold eY
 split
 ·unfold dL
  dsimp only
  split<;>rfl
 rfl
def smA(P:Program)(n:Nat)(hs:List Nat)(B:Cells)(p:Oper)(e:Env):Option Value:=(smV P n hs B p e).map (·.1)
def smL(P:Program)(n:Nat)(hs:List Nat)(B:Cells)(p:Oper)(e:Env):Option (List Nat):=(smV P n hs B p e).map fun x=>WU x.2
def smR(P:Program)(n:Nat)(hs:List Nat)(B:Cells)(p:Oper)(e:Env):Option (List Nat):=(smV P n hs B p e).map fun x=>UH x.2
section
variable {X:Cx} {o:Option JS}
theorem jmo(ps hs:List Nat)(B:Cells)(v:Value)(hj:J X (nA ps v B o))(hv:eY X.n (smA X.P X.n hs B) o=some v:=by kernel_rfl)(hq:eY X.n (smL X.P X.n hs B) o=eY X.n (smR X.P X.n hs B) o:=by kernel_rfl)(hB:dS ps o=some B:=by kernel_rfl):J X o:=by
 rw[show smA X.P X.n hs B=fun p e=>(smV X.P X.n hs B p e).map (·.1) from rfl,Ct] at hv
 rw[show smL X.P X.n hs B=fun p e=>(smV X.P X.n hs B p e).map (fun x=>WU x.2) from rfl,show smR X.P X.n hs B=fun p e=>(smV X.P X.n hs B p e).map (fun x=>UH x.2) from rfl,Ct,Ct] at hq
 cases hx:eY X.n (smV X.P X.n hs B) o with
 |none=>rw[hx] at hv;cases hv
 |some x=>
  rcases x with ⟨v',q⟩
  rw[hx] at hv hq
  simp only[Option.map_some,Option.some.injEq] at hv hq
  subst hv
  refine jS (Φ:=fun u L'=>u=v'∧L'=B) ps B hx hB (fun p e hf=>?_) (fun u L' qH=>by obtain⟨rfl,rfl⟩:=qH;exact hj)
  unfold smV at hf
  split at hf<;>try (cases hf;done)
  rename_i xs az
  split at hf<;>try (cases hf;done)
  rename_i ws Uc
  split at hf<;>try (cases hf;done)
  rename_i u B' q2 bX
  simp only[Option.some.injEq,Prod.mk.injEq] at hf
  obtain⟨rfl,rfl⟩:=hf
  refine⟨fun c hc=>?_,fun R Q E hQ=>?_⟩
  ·rw[hc] at az;cases az
  rw[QZ az (Ph (f:=ev X.n e) (fun x v h=>aG h) Uc)]
  obtain⟨_,_,h3⟩:=aui _ bX (mv hq)
  exact h3 _ _ _ (fun x hx=> .inr (List.mem_append_left _ hx)) (hQ _ _ ⟨rfl,rfl⟩)
theorem IW:∀(n t:Nat) (acc:Array Value),(Extern.BytealgMakeNoZero.digits n t acc).size=acc.size+n
 |0,_,_=>rfl
 |n+1,t,acc=>by
  simp only[Extern.BytealgMakeNoZero.digits,IW n,Array.size_push];omega
theorem jnz{ps rs:Array TypeId}{n:Nat}{z:List Value}(ef:EF X.P f (Extern.BytealgMakeNoZero.makeNoZero ps rs))(hT:rs[0]?=some T) (tf:TF X.P T (.slice E) sz bE z ag) (hn:n≤1000)
 (hj:∀b l,n≤l.length→J X (nA [] (.slice (some ⟨b,0,none⟩) n l.length) [(b,.cells ⟨l⟩ E (0,0))] o)) (hv:eY X.n (akd X.n) o=some (f,[.int .i64 (n:Int)]):=by kernel_rfl) (hB:dS [] o=some []:=by kernel_rfl):J X o:=by
 obtain⟨ops,i,todo,k,e,w,kn,p,rfl,ho,hw,hc⟩:=dD hv
 obtain⟨xs,at_,az,hx⟩:=Pg hc
 intro bY
 rcases p with ⟨dst,op,ty,pos,dg,g⟩
 dsimp only at az;subst az
 refine af5 X.hC ho hw ef hx ?_
 have eM:Extern.BytealgMakeNoZero.makeNoZero ps rs ⟨[Value.int .i64 (n:Int)]⟩=(do
  let some t:=rs[0]?|stuck "bytealg.MakeNoZero: no result type"
  let .slice elem ←underlying t|stuck "bytealg.MakeNoZero: slice type expected"
  if (n:Int) <0||(n:Int)>2^48 then runtimePanic (.error "makeslice: len out of range")
  let cap ←choose (.appendCap (n:Int).toNat 0 elem)
  askRoom cap
  let bytes ←choose (.extern "internal/bytealg.MakeNoZero.bytes" 0)
  let a ←newRow elem (Extern.BytealgMakeNoZero.digits cap bytes #[])
  pure (.slice (some a) (n:Int).toNat cap)):=rfl
 rw[eM]
 simp only[hT,ba tf]
 rw[if_neg (by simp only[Bool.or_eq_true,decide_eq_true_eq];omega)]
 refine aeI rfl fun q=>?_
 refine s9 ?_
 show (if (Question.extern "internal/bytealg.MakeNoZero.bytes" 0).forced=true then _ else _)
 have key:∀cap bytes,n≤cap→bS X.P (newRow E (Extern.BytealgMakeNoZero.digits cap bytes #[]) >>= fun a=>pure (Value.slice (some a) ((n:Int).toNat) cap)) ⟨X.ro,den w⟩ (fun v s'=>ab X.C X.fn X.aA ops todo (KQ X k) (A X.n (upd dst v e) X.D) s') (fun _ _=>False):=by
  intro cap bytes oU
  rw[jD]
  intro b hb
  have hl:(Extern.BytealgMakeNoZero.digits cap bytes #[]).toList.length=cap:=by
   rw[Array.length_toList,IW];simp
  have:=hj b (Extern.BytealgMakeNoZero.digits cap bytes #[]).toList (by omega)
  rw[oF ho] at this
  have:=this bY
  simp only[JP,gA,hl,ya] at this
  exact this
 split
 ·exact key _ _ (by show n≤(n:Int).toNat+_;rw[Int.toNat_natCast];exact Nat.le_add_right _ _)
 exact fun q2=>key _ _ (by show n≤(n:Int).toNat+_;rw[Int.toNat_natCast];exact Nat.le_add_right _ _)
def sdV(n:Nat)(p:Oper)(e:Env):Option (Addr×Nat×Nat):=match p.op with
 | .call ⟨.builtin .unsafeSliceData,xs,_⟩=>match yC n e xs.toList with
  |some [.slice (some a) l c]=>some (a,l,c)
  |_=>none
 |_=>none
theorem jsd{a:Addr}{l c:Nat}(h:c≠0)(hj:J X (nA [] (.pointer (some a)) [] o))(hv:eY X.n (sdV X.n) o=some (a,l,c):=by kernel_rfl)(hB:dS [] o=some []:=by kernel_rfl):J X o:=by
 refine jS (Φ:=fun u L'=>u= .pointer (some a)∧L'=[]) [] [] hv hB (fun p e hf=>?_) (fun u L' qH=>by obtain⟨rfl,rfl⟩:=qH;exact hj)
 unfold sdV at hf
 split at hf<;>try (cases hf;done)
 rename_i xs at_ az
 split at hf<;>try (cases hf;done)
 rename_i a' l' c' hx
 simp only[Option.some.injEq,Prod.mk.injEq] at hf
 obtain⟨rfl,rfl,rfl⟩:=hf
 refine⟨by rw[az];simp,fun R Q E hQ=>?_⟩
 have e1:Builtin.unsafeSliceData_ at_ p.type ⟨[.slice (some a') l' c']⟩=pure (.pointer (some a')):=by
  show (if c'≠0 then _ else _)=_
  rw[if_pos h]
 simp only[execOp,az,resolve,sQ (show vX X.n e xs=_ from hx),ae,invoke,builtin,e1]
 exact hQ _ _ ⟨rfl,rfl⟩
def usV(P:Program)(n:Nat)(p:Oper)(e:Env):Option (Nat×TypeId):=match p.op with
 | .call ⟨.builtin .unsafeString,xs,at_⟩=>match at_[0]? with
  |some pt=>match a8 P pt with
   |some ⟨.pointer E,_,_,_⟩=>bif Nat.beq (P.cellsOf E) 1 then (match yC n e xs.toList with
    |some [.pointer (some ⟨b,0,none⟩),.int .i64 1]=>some (b,E)
    |_=>none) else none
   |_=>none
  |none=>none
 |_=>none
theorem jus(ps:List Nat)(x:Int)(l:List Value)(hj:∀L',J X (nA ps (.string ⟨#[x.toNat.toUInt8]⟩) L' o))(hv:eY X.n (usV X.P X.n) o=some (b,E):=by kernel_rfl)(hB:dS ps o=some [(b,.cells ⟨.int .u8 x::l⟩ E (0,0))]:=by kernel_rfl):J X o:=by
 refine jS (Φ:=fun u L'=>u= .string ⟨#[x.toNat.toUInt8]⟩) ps _ hv hB (fun p e hf=>?_) (fun u L' qH=>by subst qH;exact hj L')
 unfold usV at hf
 split at hf<;>try (cases hf;done)
 rename_i xs at_ az
 split at hf<;>try (cases hf;done)
 rename_i pt hpt
 split at hf<;>try (cases hf;done)
 rename_i E' _ _ _ dQ
 cases hc:Nat.beq (X.P.cellsOf E') 1 with
 |false=>rw[hc] at hf;cases hf
 |true=>
  rw[hc] at hf
  simp only[cond_true] at hf
  split at hf<;>try (cases hf;done)
  rename_i b' hx
  simp only[Option.some.injEq,Prod.mk.injEq] at hf
  obtain⟨rfl,rfl⟩:=hf
  have hc:=Nat.eq_of_beq_eq_true hc
  obtain⟨bE,tf⟩:=aw dQ
  refine⟨by rw[az];simp,fun R Q Er hQ=>?_⟩
  have e1:Builtin.unsafeString_ at_ p.type ⟨[.pointer (some ⟨b',0,none⟩),.int .i64 1]⟩=(do
   let n ←asInt (.int .i64 1)
   let some pt:=at_[0]?|stuck "unsafe.String: no argument types"
   if n <0 then runtimePanic (.error "unsafe.String: len out of range")
   if n>IntKind.i64.max then unsupported (.unsafePointer "String: a length above the largest int")
   if n=0 then pure (.string .empty)
   else if ←variablesAt ⟨b',0,none⟩ (←elemOf pt) n.toNat then do
    let s ←loadBytes ⟨b',0,none⟩ .empty n.toNat
    freeze ⟨b',0,none⟩ n.toNat
    pure (.string s)
   else unsupported (.unsafePointer "String: not so many bytes at ptr")):=rfl
  simp only[execOp,az,resolve,sQ (show vX X.n e xs=_ from hx),ae,invoke,builtin,e1]
  simp only[asInt,asIntOf,aa,ae,hpt,show ¬((1:Int) <0) by omega,show ¬((1:Int)>IntKind.i64.max) by decide,show ¬((1:Int)=0) by omega,if_false,elemOf,ba tf,variablesAt,eN]
  have hs:(⟨X.ro,[(b',Obj.cells ⟨Value.int .u8 x::l⟩ E' (0,0))]++R⟩:St).rw=[]++(b',Obj.cells ⟨Value.int .u8 x::l⟩ E' (0,0))::R:=rfl
  have hm:(⟨X.ro,[(b',Obj.cells ⟨Value.int .u8 x::l⟩ E' (0,0))]++R⟩:St).has b' (.cells ⟨Value.int .u8 x::l⟩ E' (0,0)):= .inr (by rw[hs];exact fA)
  refine⟨_,hm,?_⟩
  have aGr:=Go.Lib.liesAt_bytes (P:=X.P) hc ((Value.int .u8 x::l).length / X.P.cellsOf E') 1 (by rw[hc];simp)
  have pb:∀ {α β:Type} (a:α) (f:α→Sem β),(Sem.pure a).bind f=f a:=fun _ _=>rfl
  simp only[Obj.shapeOf,List.size_toArray,aa,ae,pb]
  rw[show (1:Int).toNat=1 from rfl,aGr]
  simp only[ae,aa,if_true,loadBytes]
  refine⟨rfl,rfl,_,_,_,.int .u8 x,hm,rfl,?_⟩
  simp only[aa,ae]
  refine(if_neg (by omega:¬(1:Nat)=0)).mpr ?_
  refine⟨[],_,R,hs,?_⟩
  exact hQ (.string ⟨#[x.toNat.toUInt8]⟩) [(b',_)] rfl
def pnV(P:Program)(n:Nat)(p:Oper)(e:Env):Option (Nat×Nat):=match p.op with
 | .binOp .neq T x y _=>match a8 P T with
  |some ⟨.pointer E,_,_,_⟩=>match a8 P E with
   |some te=>bif Nat.blt 0 te.size then (match bu n e x with
    |some (.pointer (some ⟨b,0,none⟩))=>match bu n e y with
     |some (.pointer (some ⟨c,0,none⟩))=>some (b,c)
     |_=>none
    |_=>none) else none
   |none=>none
  |_=>none
 |_=>none
theorem apM{dep:Nat}{t:TypeId}{sz2 B7:Nat}{z z2:List Value}{ag2:Bool}(tf:TF P t (.pointer E) sz bE z ag){d:TypeDesc}(ry:TF P E d sz2 B7 z2 ag2)(hs:sz2≠0)(a:Addr):EqD P (dep+1) t (.pointer (some a)) (.pointer (some a)) true:=by
 intro α s kk Q Er
 simp only[Op.equalIn,aa,ba tf,cz ry,hs,ne_eq,not_false_eq_true,if_true,sameAddr,beq_self_eq_true,ae]
theorem jpn(hj:J X (nA [] (.bool false) [] o))(hv:eY X.n (pnV X.P X.n) o=some (b,b):=by kernel_rfl)(hB:dS [] o=some []:=by kernel_rfl):J X o:=by
 refine jS (Φ:=fun u L'=>u= .bool false∧L'=[]) [] [] hv hB (fun p e hf=>?_) (fun u L' qH=>by obtain⟨rfl,rfl⟩:=qH;exact hj)
 unfold pnV at hf
 split at hf<;>try (cases hf;done)
 rename_i T x y T2 az
 split at hf<;>try (cases hf;done)
 rename_i E' _ _ _ dQ
 split at hf<;>try (cases hf;done)
 rename_i te uG
 cases hc:Nat.blt 0 te.size with
 |false=>rw[hc] at hf;cases hf
 |true=>
  rw[hc] at hf
  simp only[cond_true] at hf
  split at hf<;>try (cases hf;done)
  rename_i b' hx
  split at hf<;>try (cases hf;done)
  rename_i c' hy
  simp only[Option.some.injEq,Prod.mk.injEq] at hf
  obtain⟨rfl,rfl⟩:=hf
  obtain⟨bE,tf⟩:=aw dQ
  obtain⟨B7,ry⟩:=aw uG
  have hc:0 <te.size:=by rwa[Nat.blt_eq] at hc
  refine⟨by rw[az];simp,fun R Q Er hQ=>?_⟩
  have hs:te.size≠0:=by omega
  simp only[execOp,az,aG hx,aG hy,eqGuard,aa,binOp,Op.equal,Op.maxDepth]
  simp only[Bool.not_true,Bool.false_eq_true,if_false,ae,aa]
  rw[apM (dep:=9999) tf ry hs]
  exact hQ _ _ ⟨rfl,rfl⟩
end
attribute [irreducible] smV smA smL smR sdV usV pnV
section
variable {X:Cx} {o:Option JS}
def s0V(P:Program)(n:Nat)(p:Oper)(e:Env):Option (Addr×Nat×Nat):=match p.op with
 | .slice T x none (some y) none=>match a8 P T with
  |some ⟨.slice E,_,_,_⟩=>match a8 P E with
   |some _=>match bu n e x with
    |some (.slice (some ⟨b,0,none⟩) l c)=>match bu n e y with
     |some (.int .i64 0)=>some (⟨b,0,none⟩,l,c)
     |_=>none
    |_=>none
   |none=>none
  |_=>none
 |_=>none
theorem js0{a:Addr}{l c:Nat}(hj:J X (ku (.slice (some a) 0 c) o))(hv:dL X.n (s0V X.P X.n) o=some (a,l,c):=by kernel_rfl):J X o:=by
 refine jG hv (fun s p e ho hh hf=>?_) hj
 unfold s0V at hf
 split at hf<;>try (cases hf;done)
 rename_i T x y az
 split at hf<;>try (cases hf;done)
 rename_i E _ _ _ dQ
 split at hf<;>try (cases hf;done)
 rename_i te uG
 split at hf<;>try (cases hf;done)
 rename_i b l' c' hx
 split at hf<;>try (cases hf;done)
 rename_i hy
 simp only[Option.some.injEq,Prod.mk.injEq] at hf
 obtain⟨rfl,rfl,rfl⟩:=hf
 obtain⟨bE,tf⟩:=aw dQ
 obtain⟨B7,ry⟩:=aw uG
 have key:∀s,Yields X.P X.n e p s (.slice (some ⟨b,0,none⟩) 0 c'):=by
  intro s s' ny f hf K E hK
  have hb:(0:Int)≤0∧(0:Int)≤(c':Int):=by omega
  simp only[execOp,az,Option.map_some,Option.map_none,Instr.sliceAt,Instr.slice,hf _ _ hx,hf _ _ hy,aa,ba tf,Instr.sliceBounds,Instr.sliceBound,asIntOf,ae,hb,and_self,if_true,cz ry]
  have he:(if c'=0 then (some ⟨b,0,none⟩:Option Addr) else some ((⟨b,0,none⟩:Addr).add (0*te.size)))=some ⟨b,0,none⟩:=by
   split
   ·rfl
   simp[dO]
  rw[show (0:Int).toNat=0 from rfl,he]
  exact hK
 exact⟨by rw[az];rfl,fun _=>key _,fun _=>key⟩
end
attribute [irreducible] s0V
section
variable {X:Cx} {o:Option JS}
def cpV(P:Program)(n:Nat)(p:Oper)(e:Env):Option Nat:=match p.op with
 | .call ⟨.builtin .cap,⟨[x]⟩,⟨[T]⟩⟩=>match a8 P T with
  |some ⟨.slice _,_,_,_⟩=>match bu n e x with
   |some (.slice _ _ c)=>some c
   |_=>none
  |_=>none
 |_=>none
theorem jcp{c:Nat}(hj:J X (ku (.int .i64 (c:Int)) o))(hv:dL X.n (cpV X.P X.n) o=some c:=by kernel_rfl):J X o:=by
 refine jG hv (fun s p e ho hh hf=>?_) hj
 unfold cpV at hf
 split at hf<;>try (cases hf;done)
 rename_i x T az
 split at hf<;>try (cases hf;done)
 rename_i dQ
 split at hf<;>try (cases hf;done)
 rename_i a l c' hx
 simp only[Option.some.injEq] at hf
 subst hf
 obtain⟨bE,tf⟩:=aw dQ
 have key:∀s,Yields X.P X.n e p s (.int .i64 (c':Int)):=by
  intro s s' ny f hf K E hK
  simp only[execOp,az,resolve,invoke,builtin,List.map_toArray,List.map_cons,List.map_nil,hf _ _ hx,ae,aa,Builtin.cap_,List.getElem?_toArray,List.getElem?_cons_zero,ba tf]
  exact hK
 exact⟨by rw[az];rfl,fun _=>key _,fun _=>key⟩
end
attribute [irreducible] cpV
def tkO(is:List Nat)(o:Option JS):List Sg:=(rJ is o).getD []
theorem aOG{X:Cx}{ι:Type}(is:List Nat)(p:List Nat)(Ks:List (Act→St→Prop))(ef:ι→Env)(wf:ι→List Sg)(Inv:ι→Prop)(μ:ι→Nat)(i0:ι)(h0:Inv i0)(ps:List Nat)(hb:∀i,Inv i→∀K,xK X K ef (fun i=>wf i++tkO is o) Inv μ (μ i)→∀rest,J X (stW X.P X.fn p (Ks++[K]) (ef i++rest) (wf i++tkO is o)))
 (h1:rP (nE (ef i0)) o=some (ef i0):=by kernel_rfl)(hd:∀i,lkE (nE (ef i)) (ef i)=some (ef i):=by intro _;kernel_rfl)(h2:rJ ps o=some (wf i0++tkO is o):=by kernel_rfl)(hp:∀K,KV X.P X.fn p (Ks++[K])=lpB K (yT o):=by intro _;kernel_rfl):J X o:=
 dV p Ks ef (fun i=>wf i++tkO is o) Inv μ i0 h0 ps hb h1 hd h2 hp
attribute [irreducible] tkO
abbrev RCG(ro:Nat→Option Obj)(Φ:Value→(Nat→Option Obj)→Cells→Prop)(fr:Cells):Ending→St→Prop:=fun en s'=>∃v aJ Y,en= .returned v∧Sub ro aJ∧(⟨aJ,Y++fr⟩:St).le s'∧Φ v aJ Y
def az6(P:Program)(f:FuncId)(args:List Value)(ro:Nat→Option Obj)(own:Cells)(Φ:Value→(Nat→Option Obj)→Cells→Prop):Prop:=
 ∀fr,Fn (C0 P) P f ⟨args⟩ ⟨ro,own++fr⟩ (RCG ro Φ fr)
theorem aER(hm:P.follows .mixedOrders=true){Φ:Value→(Nat→Option Obj)→Cells→Prop}{L:Cells}(own:List Sg)(kn:Cells)(hk:Knows ro kn)(h:∀fr,J (XC P hm f ro (RCG ro Φ fr)) (jI P f args (own++[.l fr]) kn))(hL:den own=L:=by rfl):az6 P f args ro L Φ:=by
 subst hL
 intro fr
 have h:=h fr
 unfold jI at h
 split at h<;>try exact h.elim
 rename_i fn hf
 split at h<;>try exact h.elim
 rename_i c hc
 cases hl:Nat.ble args.length fn.ntmps with
 |false=>rw[hl] at h;exact h.elim
 |true=>
  rw[hl] at h
  have u9:qW P f=fn:=by simp only[qW,hf]
  have:=h hk
  simp only[JP,XC,KQ,u9] at this
  have hd:den (own++[.l fr])=den own++fr:=by rw[lJ];rfl
  rw[hd] at this
  exact MY ye hf hc hl this
section
variable {X:Cx} {o:Option JS}
theorem avY{vs:List Value}{own:Cells}{Φ:Value→(Nat→Option Obj)→Cells→Prop}(ps:List Nat)(hC:∀main T,X.C main T→C0 X.P main T)(hf:az6 X.P f vs X.ro own Φ)(hj:∀v aJ Y,Sub X.ro aJ→Φ v aJ Y→J (X.at aJ) (nA ps v Y o))(h1:eY X.n (yW X.P X.n) o=some (f,vs):=by kernel_rfl)(h2:dS ps o=some own:=by kernel_rfl):J X o:=by
 obtain⟨ops,i,todo,k,e,w,kn,p,rfl,ho,hw,hc⟩:=dD h1
 obtain⟨ff,x,xs,at_,fi,ca,ws,az,hx,sM,rfl⟩:=q7 hc
 intro bY
 rcases p with ⟨dst,op,ty,pos,dg,g⟩
 dsimp only at az;subst az
 have hp:=bN h2
 have u9:Fn X.C X.P f ⟨fi++ws++ca⟩ ⟨X.ro,den w⟩ (RCG X.ro Φ (den (dI ps 0 w))):=fun main T hT c cs k1 k2=>
  (X.hC main T hT).mono _ ⟨X.ro,own++den (dI ps 0 w)⟩ _ (dP (J:=[]) (by rw[List.append_nil];exact hp) (Sub.refl _)) (Fn.weaken hC (hf _) main T hT c cs k1 k2)
 refine uA (fi:=⟨fi⟩) (ca:=⟨ca⟩) (ws:=fi++ws++ca) X.hC ho hw hx ff sM (TK fi ws ca) u9 (fun v' s' hr=>?_) (fun ch s' hr=>by obtain⟨_,_,_,e,_⟩:=hr;cases e) (fun s' hr=>by obtain⟨_,_,_,e,_⟩:=hr;cases e)
 obtain⟨v,aJ,Y,hv,hs,hle,qH⟩:=hr
 cases hv
 have:=hj _ aJ Y hs qH
 rw[oF ho] at this
 have:=this (bY.up hs)
 simp only[JP,gA,Jx] at this
 exact this.more X.hC hle
theorem avW(hq:QR X (RC pW fr Φ))(v:Value)(hs ps:List Nat)(Y:Cells)(fD:Sub pW X.ro)(hR:Φ v Y)(h1:rB (iy X.P X.n X.fn hs o)=some v:=by kernel_rfl)(h2:Qk (iy X.P X.n X.fn hs o)=Qj (iy X.P X.n X.fn hs o):=by kernel_rfl)(h3:dS ps o=some (Y++fr):=by kernel_rfl)(h4:Ar o=true:=by kernel_rfl):J X o:=
 aO hq v hs ps (Y++fr) fD ⟨v,Y,rfl,St.le_refl _,hR⟩ h1 h2 h3 h4
theorem aOA(hq:QR X (RC pW fr Φ))(v:Value)(ps:List Nat)(A B:Cells)(fD:Sub pW X.ro)(hR:Φ v (A++B))(h1:rB (iy X.P X.n X.fn [] o)=some v:=by kernel_rfl)(h2:Qk (iy X.P X.n X.fn [] o)=Qj (iy X.P X.n X.fn [] o):=by kernel_rfl)(h3:dS ps o=some (A++(B++fr)):=by kernel_rfl)(h4:Ar o=true:=by kernel_rfl):J X o:=
 aO hq v [] ps ((A++B)++fr) fD ⟨v,A++B,rfl,St.le_refl _,hR⟩ h1 h2 (by rw[h3,List.append_assoc]) h4
theorem aOz{Φ:Value→(Nat→Option Obj)→Cells→Prop}(hq:QR X (RCG pW Φ fr))(v:Value)(ps:List Nat)(Y:Cells)(fD:Sub pW X.ro)(hR:Φ v X.ro Y)(h1:rB (iy X.P X.n X.fn [] o)=some v:=by kernel_rfl)(h2:Qk (iy X.P X.n X.fn [] o)=Qj (iy X.P X.n X.fn [] o):=by kernel_rfl)(h3:dS ps o=some (Y++fr):=by kernel_rfl)(h4:Ar o=true:=by kernel_rfl):J X o:=
 aO hq v [] ps (Y++fr) (Sub.refl _) ⟨v,X.ro,Y,rfl,fD,St.le_refl _,hR⟩ h1 h2 h3 h4
end
theorem UR{fn:Func}{c:Code}{s:St}{os:Os}{out:Array (Nat×ByteArray)}{Post:Value→World→Prop}(hf:P.funcs[f]?=some fn) (hb:fn.body=some c) (hl:Nat.ble args.length fn.ntmps=true) (hi:P.inits.idxOf? f=none)
 (SP:∀v s0 w,R (.returned v) s0→aS s0 w→w.os=os→w.output=out→Post v w) (H6:∀ch s,¬R (.panicked ch) s)
 (h:Wp (C0 P) f none c (r5 P fn R) (A fn.ntmps (fO 0 args) []) s):T0 P os out Post (G (Frame.enter P f ⟨args⟩ .normal) []) s:=by
 have hT:C0 P true (T0 P os out Post):=⟨rfl,os,out,Post,rfl⟩
 have iR:=tb P os out Post
 let b:Frame:={(default:Frame) with fn:=f,kind:= .normal,roundOf:=none}
 have gZ:Frame.enter P f ⟨args⟩ .normal=aM b (A fn.ntmps (fO 0 args) []) [.code c]:=by
  rw[←kT args fn.ntmps (Nat.le_of_ble_eq_true hl)]
  simp[Frame.enter,aM,hf,hb,b]
 rw[gZ]
 refine h true _ hT b [] [] rfl (by simp[b]) rfl fun e a' s' q=>?_
 have last:∀(todo:List Item),a'.defers=[]→bS P (results fn a'.tmps) s' (fun v s'=>∃s0,s0.le s'∧R (.returned v) s0) (fun _ _=>False)→T0 P os out Post (G {aM b a' todo with mode:= .returning} []) s':=by
  intro todo hd hr
  refine aa0 rfl fun w p6 tV Fi=>?_
  obtain⟨r,es,bX,hl⟩:=gM _ _ _ _ w #[] hr p6
  rw[Array.empty_append] at bX
  cases r with
  |ok v w'=>
   obtain⟨s2,ht,s0,hle,hu⟩:=hl
   refine⟨v,w',seen P f es,s2,?_,SP v s0 w' hu (aS.of_le hle ht.jP) (ht.os.trans tV) (ht.output.trans Fi),ht.sub (iG _ _ _)⟩
   simp only[aM,b,G,stepG,unwind,hf,hd,bX,doReturn,hi,GStep.after,Array.append_empty,Bool.not_true,Bool.false_eq_true,if_false]
  |halt _ _=>obtain⟨_,_,hu⟩:=hl;exact hu.elim
 cases e with
 |normal=>exact iR.go rfl rfl (g':=G {aM b a' [] with mode:= .returning} []) (fun w=>by simp[G,stepG,stepG.exec,aM,b]) (last _ q.1 q.2)
 |ret=>exact fun todo=>iR.go rfl rfl (g':=G {aM b a' (.code .ret::todo) with mode:= .returning} []) (fun w=>by simp[G,stepG,stepG.exec,aM,b]) (last _ q.1 q.2)
 |panic ch=>exact(H6 _ _ q.2).elim
 |exit id=>exact q.elim
 |goto l=>exact q.elim
 |outgrown=>exact q.elim
def asO(P:Program)(f:FuncId)(args:List Value)(ro:Nat→Option Obj)(Φ:Value→Cells→Prop):Prop:=
 ∀os out (Post:Value→World→Prop),(∀v Y w,Φ v Y→aS ⟨ro,Y⟩ w→w.os=os→w.output=out→Post v w)→T0 P os out Post (G (Frame.enter P f ⟨args⟩ .normal) []) ⟨ro,[]⟩
theorem aEP(hm:P.follows .mixedOrders=true)(hi:P.inits.idxOf? f=none)(kn:Cells)(hk:Knows ro kn)(h:∀fr,J (XC P hm f ro (RC ro fr Φ)) (jI P f args [.l fr] kn)):asO P f args ro Φ:=by
 intro os out Post SP
 have h:=h []
 unfold jI at h
 split at h<;>try exact h.elim
 rename_i fn hf
 split at h<;>try exact h.elim
 rename_i c hc
 cases hl:Nat.ble args.length fn.ntmps with
 |false=>rw[hl] at h;exact h.elim
 |true=>
  rw[hl] at h
  have u9:qW P f=fn:=by simp only[qW,hf]
  have:=h hk
  simp only[JP,XC,KQ,u9] at this
  refine UR hf hc hl hi (fun v s0 w hr p6 tV Fi=>?_) (fun ch s hr=>?_) this
  ·obtain⟨v',Y,e,hle,qH⟩:=hr
   cases e
   refine SP _ Y w qH ?_ tV Fi
   have:=aS.of_le hle p6
   rwa[List.append_nil] at this
  obtain⟨v',Y,e,_⟩:=hr;cases e
open Go.Proofs
theorem av:Tryz.prog.follows .mixedOrders=true:=by kernel_rfl
theorem zB:(∀a b:Bool,((a&&b)=true)=(a=true∧b=true))∧(∀a b:Bool,((a||b)=true)=(a=true∨b=true))∧(∀a b:Bool,((a&&b)=false)=(a=false∨b=false))∧(∀a b:Bool,((a||b)=false)=(a=false∧b=false))∧(∀b:Bool,((!b)=true)=(b=false))∧(∀b:Bool,((!b)=false)=(b=true))∧(∀(p:Prop) [Decidable p],(decide p=true)=p)∧(∀(p:Prop) [Decidable p],(decide p=false)=¬p)∧((¬True)=False)∧(∀p:Prop,(p∨False)=p)∧(∀p:Prop,(False∨p)=p):=
 ⟨Bool.and_eq_true,Bool.or_eq_true,by simp,by simp,by simp,by simp,by simp,by simp,by simp,by simp,by simp⟩
@[reducible] noncomputable def zT:Program:=Tryz.prog
abbrev zS:Value:= .slice none 0 0
abbrev zP(b:Nat):Value:= .pointer (some ⟨b,0,none⟩)
abbrev zI(n:Int):Value:= .int .i64 n
abbrev zU(n:Int):Value:= .int .u64 n
abbrev zO:List Value:=[zS,zS,zS,zS,zS,zS,zS,zS,zI 0,zI 0,zI 0,zS]
theorem zG(l:List α)(k:Nat)(h:k <l.length:=by omega):∃x,l[k]?=some x:=⟨_,List.getElem?_eq_getElem h⟩
theorem zJ{X:Cx}(t:Nat)(p:Prop)[Decidable p](h1:p→J X (QX t (.bool true) o))(h2:¬p→J X (QX t (.bool false) o))(hv:Lj t o=some (.bool (decide p)):=by kernel_rfl):J X o:=
 js t (decide p) (fun h=>h1 (of_decide_eq_true h)) (fun h=>h2 (of_decide_eq_false h)) hv
theorem zD{X:Cx}(k:Nat)(h:J X (res (adv X.P X.n k [] o)))(he:lhs (adv X.P X.n k [] o)=rhs (adv X.P X.n k [] o):=by kernel_rfl):J X o:=jd k [] h he
theorem zL{l:List α}{a:α}(h:l[i]?=some a):a∈l:=List.mem_of_getElem? h
theorem zR{hm:P.follows .mixedOrders=true}(v:Value)(hs ps:List Nat)(Y:Cells)(hR:Φ v Y)(h1:rB (iy P (qW P f).ntmps f hs o)=some v:=by kernel_rfl)(h2:Qk (iy P (qW P f).ntmps f hs o)=Qj (iy P (qW P f).ntmps f hs o):=by kernel_rfl)(h3:dS ps o=some Y:=by kernel_rfl)(h4:Ar o=true:=by kernel_rfl):J (X0 P hm f ro (RX ro Φ)) o:=
 aO q0 v hs ps Y (Sub.refl _) ⟨_,_,rfl,rfl,hR⟩ h1 h2 h3 h4
theorem zX{hm:P.follows .mixedOrders=true}(v:Value)(hR:Φ v [])(h1:rB (iy P (qW P f).ntmps f [] o)=some v:=by kernel_rfl)(h2:Qk (iy P (qW P f).ntmps f [] o)=Qj (iy P (qW P f).ntmps f [] o):=by kernel_rfl)(h3:dS [] o=some []:=by kernel_rfl)(h4:Ar o=true:=by kernel_rfl):J (X0 P hm f ro (RX ro Φ)) o:=
 zR v [] [] [] hR h1 h2 h3 h4
theorem zE(h:J (X0 Tryz.prog av f ro (RX ro Φ)) (jI Tryz.prog f args [] [])):eg Tryz.prog f args ro [] Φ:=bG av [] [] bp h
theorem zC{L:Cells}(own:List Sg)(h:J (X0 Tryz.prog av f ro (RX ro Φ)) (jI Tryz.prog f args own []))(hL:den own=L:=by rfl):eg Tryz.prog f args ro L Φ:=bG av own [] bp h hL
@[reducible] def zN(a k:Nat):List Nat:=List.range' a k
theorem zM:(∀l m:List α,(l++m).length=l.length+m.length)∧(∀(a:α) (l:List α),(a::l).length=l.length+1)∧([]:List α).length=0:=⟨fun _ _=>List.length_append,fun _ _=>rfl,rfl⟩
theorem zK{X:Cx}{m:Nat}{e:Env}{o':Option JS}(h:∀o',tM 0 [] o'=tM m [] o→rP (nE e) o'=some e→J X o')(h1:tM 0 [] o'=tM m [] o:=by kernel_rfl)(h2:rP (nE e) o'=some e:=by kernel_rfl):J X o':=h o' h1 h2
def iL(n lo hi:Int):Bool:=decide (lo≤n)&&decide (n≤hi)
theorem fq:dK zT 78 [zI n,zI lo,zI hi] ro (.bool (iL n lo hi)):=by
 refine zE<|zD 10<|jj 4 [(6,.bool false),(14,.bool ((decide (lo≤n))&&(decide (n≤hi))))] (fun gp=>?_) (fun hj=>?_)
 rotate_left
 refine js 10 (decide (lo≤n)) (fun h1=>?_) (fun h1=>?_)
 ·
  have gh:=h1
  replace gh:=of_decide_eq_true gh
  refine zD 4<|jw 14 (.bool ((decide (lo≤n))&&(decide (n≤hi)))) (w:= .bool (decide (n≤hi))) (by rw[h1]<;>rfl) ?_
  exact zK hj
 ·
  have gh:=h1
  replace gh:=of_decide_eq_false gh
  refine zD 4<|jw 14 (.bool ((decide (lo≤n))&&(decide (n≤hi)))) (w:= .bool false) (by rw[h1]<;>rfl) ?_
  exact zK hj
 refine zD 3<|zX (.bool ((decide (lo≤n))&&(decide (n≤hi)))) ⟨rfl,rfl⟩
theorem jv:dK zT 200 [zI n,zI lo,zI hi] ro (.bool (iL n lo hi)):=by
 refine zE<|zD 10<|jj 4 [(6,.bool false),(14,.bool ((decide (lo≤n))&&(decide (n≤hi))))] (fun gp=>?_) (fun hj=>?_)
 rotate_left
 refine js 10 (decide (lo≤n)) (fun h1=>?_) (fun h1=>?_)
 ·
  have gh:=h1
  replace gh:=of_decide_eq_true gh
  refine zD 4<|jw 14 (.bool ((decide (lo≤n))&&(decide (n≤hi)))) (w:= .bool (decide (n≤hi))) (by rw[h1]<;>rfl) ?_
  exact zK hj
 ·
  have gh:=h1
  replace gh:=of_decide_eq_false gh
  refine zD 4<|jw 14 (.bool ((decide (lo≤n))&&(decide (n≤hi)))) (w:= .bool false) (by rw[h1]<;>rfl) ?_
  exact zK hj
 refine zD 3<|zX (.bool ((decide (lo≤n))&&(decide (n≤hi)))) ⟨rfl,rfl⟩
def cw(p:α→Bool):List α→Nat→Int
 | [],_=> -1
 |x::l,k=>bif p x then k else cw p l (k+1)
theorem eX{l:List α}{x:α}(h:l[k]?=some x):l.drop k=x::l.drop (k+1):=by
 obtain⟨h1,h2⟩:=List.getElem?_eq_some_iff.1 h
 rw[List.drop_eq_getElem_cons h1,h2]
theorem eE{l:List α}(h:¬k <l.length):l.drop k=[]:=List.drop_eq_nil_of_le (by omega)
theorem jO{p:α→Bool}{l:List α}{x:α}(h:l[k]?=some x):cw p (l.drop k) k=bif p x then (k:Int) else cw p (l.drop (k+1)) (k+1):=by rw[eX h];rfl
theorem qX{p:α→Bool}{l:List α}(h:¬k <l.length):cw p (l.drop k) k= -1:=by rw[eE h];rfl
abbrev cB(x:Int):List Value:=[zI x]
theorem avM{v:Value}(hl:bD ro v 1 cB xs)(hn:xs.length≤1000000):dK zT 14 [v,zI n] ro (zI (cw (fun y=>decide (y=n)) xs 0)):=by
 obtain⟨fC,sG,sE,eO,rfl,ui,lP,mP⟩:=hl
 refine zE<|zD 10<|dV [1,0,1,0,0] [] (fun(zz:Nat)=>[(0,.slice fC xs.length eO),(1,zI n),(5,zI (zz:Int))]) (fun zz=>[]) (fun zz=>zz≤xs.length∧cw (fun y=>decide (y=n)) xs 0=cw (fun y=>decide (y=n)) (xs.drop zz) zz) (fun zz=>xs.length-zz) 0 ⟨by omega,rfl⟩ [] ?_
 rintro k hI K1 bO rest
 refine zD 8<|zJ 9 ((k:Int) <(xs.length:Int)) (fun h1=>?_) fun h1=>?_
 ·
  refine zD 8 ?_
  obtain⟨fL,eH⟩:=zG xs k
  refine iz eO 1 lP eH<|jl 0 (mP _ _ eH)<|zD 3<|zJ 17 (fL=n) (fun h2=>?_) fun h2=>?_
  ·
   refine zD 7<|zX (zI (k:Int)) ⟨by rw[hI.2,jO eH];simp[*],rfl⟩
  refine zD 4<|ja ((k:Int)+1) (by omega)<|zD 2<|bA bO (k+1) ⟨by omega,by rw[hI.2,jO eH];simp[*]⟩ (by omega) [] (Sub.refl _)
 refine zD 7<|zX (zI (-1)) ⟨by rw[hI.2,qX (by omega)],rfl⟩
def cG(n:Nat):List Int:=(List.range n).map fun(i:Nat)=>(i:Int)
theorem wy(n:Nat):cG (n+1)=cG n++[(n:Int)]:=by simp[cG,List.range_succ]
theorem gV(n:Nat):(cG n).length=n:=by simp[cG]
def aU(v:Value)(xs:List Int)(d:Nat)(X:Cells):Prop:=∃(k:Nat) (cR:Int),k≤xs.length∧X=[(d,.cells ⟨[v,zI k,zU cR]⟩ 76 (0,0))]
def Dn(ro:Nat→Option Obj)(v:Value)(xs:List Int):Prop:=bD ro v 1 cB xs∧xs.length≤4611686018427387904
theorem Dn.up{v:Value}(h:Dn ro v xs)(hs:Sub ro aJ):Dn aJ v xs:=⟨h.1.up hs,h.2⟩
theorem toNonzero(h0:¬n <1)(h1:n≤1000000):IntKind.u64.wrap (n+1)≠0:=by
 rw[sX .u64 rfl _ (by omega) (by simp[IntKind.bits];omega)];omega
theorem toRange{w:Int}(h0:¬n <1)(h1:n≤1000000)(hw:0≤w):0≤IntKind.i64.wrap (Int.tmod (aT .u64 w 16) (IntKind.u64.wrap (n+1)))∧IntKind.i64.wrap (Int.tmod (aT .u64 w 16) (IntKind.u64.wrap (n+1)))≤n:=by
 have e:IntKind.u64.wrap (n+1)=n+1:=sX .u64 rfl _ (by omega) (by simp[IntKind.bits];omega)
 rw[e]
 have h2:0≤aT .u64 w 16:=Int.fdiv_nonneg hw (by decide)
 have h3:=Int.tmod_nonneg (n+1) h2
 have h4:=Int.tmod_lt_of_pos (aT .u64 w 16) (show 0 <n+1 by omega)
 rw[kJ _ (by omega)]
 omega
theorem aTo(hN:Dn ro vd xs)(hD:aU vd xs d X):eg zT 69 [zP d] ro X (fun r Y=>∃w:Int,r= zU w∧0≤w∧w <18446744073709551616∧aU vd xs d Y):=by
 obtain⟨k,cR,hk,rfl⟩:=hD
 obtain⟨hl,hn⟩:=hN
 obtain⟨fC,sG,sE,eO,rfl,ui,lP,mP⟩:=hl
 refine zC [.b d (.cells ⟨[.slice fC xs.length eO,zI (k:Int),zU cR]⟩ 76 (0,0))]<|jd 19 [0,0]<|aQ 13 fun EV EZ AV=>jd 1 [0]<|fJ AV []<|jd 16 [0,0]<|aQ 13 fun y4 ze wZ=>jd 1 [0]<|fJ wZ []<|jd 16 [0,0]<|aQ 13 fun qp qv oV=>jd 1 [0]<|fJ oV []<|jd 15 [0,0]<|zJ 52 ((k:Int) <(xs.length:Int)) (fun h4=>?_) fun h4=>?_
 ·
  refine jd 16 [0,0,0] ?_
  obtain⟨x66,HI⟩:=zG xs k
  refine iz eO 1 lP HI<|jl 0 (mP _ _ HI)<|zD 5<|aQ 20 fun sq su qR=>jd 1 [0]<|fJ qR []<|jd 6 [0]<|ja ((k:Int)+1) (by omega)<|jd 30 [0,0]<|zR (zU (de .u64 (IntKind.u64.wrap ((de .u64 (IntKind.u64.wrap ((de .u64 (de .u64 (de .u64 cR (dG .u64 cR 13)) (aT .u64 (de .u64 cR (dG .u64 cR 13)) 7)) (dG .u64 (de .u64 (de .u64 cR (dG .u64 cR 13)) (aT .u64 (de .u64 cR (dG .u64 cR 13)) 7)) 17))+(IntKind.u64.wrap ((IntKind.u64.wrap x66)*13787848793156543929)))) (aT .u64 (IntKind.u64.wrap ((de .u64 (de .u64 (de .u64 cR (dG .u64 cR 13)) (aT .u64 (de .u64 cR (dG .u64 cR 13)) 7)) (dG .u64 (de .u64 (de .u64 cR (dG .u64 cR 13)) (aT .u64 (de .u64 cR (dG .u64 cR 13)) 7)) 17))+(IntKind.u64.wrap ((IntKind.u64.wrap x66)*13787848793156543929)))) 30))*10723151780598845931)) (aT .u64 (IntKind.u64.wrap ((de .u64 (IntKind.u64.wrap ((de .u64 (de .u64 (de .u64 cR (dG .u64 cR 13)) (aT .u64 (de .u64 cR (dG .u64 cR 13)) 7)) (dG .u64 (de .u64 (de .u64 cR (dG .u64 cR 13)) (aT .u64 (de .u64 cR (dG .u64 cR 13)) 7)) 17))+(IntKind.u64.wrap ((IntKind.u64.wrap x66)*13787848793156543929)))) (aT .u64 (IntKind.u64.wrap ((de .u64 (de .u64 (de .u64 cR (dG .u64 cR 13)) (aT .u64 (de .u64 cR (dG .u64 cR 13)) 7)) (dG .u64 (de .u64 (de .u64 cR (dG .u64 cR 13)) (aT .u64 (de .u64 cR (dG .u64 cR 13)) 7)) 17))+(IntKind.u64.wrap ((IntKind.u64.wrap x66)*13787848793156543929)))) 30))*10723151780598845931)) 31))) [] [0] [(d,.cells ⟨[.slice fC xs.length eO,zI ((k:Int)+1),zU (IntKind.u64.wrap ((de .u64 (de .u64 (de .u64 cR (dG .u64 cR 13)) (aT .u64 (de .u64 cR (dG .u64 cR 13)) 7)) (dG .u64 (de .u64 (de .u64 cR (dG .u64 cR 13)) (aT .u64 (de .u64 cR (dG .u64 cR 13)) 7)) 17))+(IntKind.u64.wrap ((IntKind.u64.wrap x66)*13787848793156543929))))]⟩ 76 (0,0))] ⟨_,rfl,(uD _ _).1,(uD _ _).2,k+1,_,(by omega),rfl⟩
 refine jd 28 [0]<|zR (zU (de .u64 (IntKind.u64.wrap ((de .u64 (de .u64 (de .u64 (de .u64 cR (dG .u64 cR 13)) (aT .u64 (de .u64 cR (dG .u64 cR 13)) 7)) (dG .u64 (de .u64 (de .u64 cR (dG .u64 cR 13)) (aT .u64 (de .u64 cR (dG .u64 cR 13)) 7)) 17)) (aT .u64 (de .u64 (de .u64 (de .u64 cR (dG .u64 cR 13)) (aT .u64 (de .u64 cR (dG .u64 cR 13)) 7)) (dG .u64 (de .u64 (de .u64 cR (dG .u64 cR 13)) (aT .u64 (de .u64 cR (dG .u64 cR 13)) 7)) 17)) 30))*10723151780598845931)) (aT .u64 (IntKind.u64.wrap ((de .u64 (de .u64 (de .u64 (de .u64 cR (dG .u64 cR 13)) (aT .u64 (de .u64 cR (dG .u64 cR 13)) 7)) (dG .u64 (de .u64 (de .u64 cR (dG .u64 cR 13)) (aT .u64 (de .u64 cR (dG .u64 cR 13)) 7)) 17)) (aT .u64 (de .u64 (de .u64 (de .u64 cR (dG .u64 cR 13)) (aT .u64 (de .u64 cR (dG .u64 cR 13)) 7)) (dG .u64 (de .u64 (de .u64 cR (dG .u64 cR 13)) (aT .u64 (de .u64 cR (dG .u64 cR 13)) 7)) 17)) 30))*10723151780598845931)) 31))) [] [0] [(d,.cells ⟨[.slice fC xs.length eO,zI (k:Int),zU (de .u64 (de .u64 (de .u64 cR (dG .u64 cR 13)) (aT .u64 (de .u64 cR (dG .u64 cR 13)) 7)) (dG .u64 (de .u64 (de .u64 cR (dG .u64 cR 13)) (aT .u64 (de .u64 cR (dG .u64 cR 13)) 7)) 17))]⟩ 76 (0,0))] ⟨_,rfl,(uD _ _).1,(uD _ _).2,k,_,(by omega),rfl⟩
theorem yD(hN:Dn ro vd xs)(hD:aU vd xs d X)(hn:n≤1000000):eg zT 32 [zP d,zI n] ro X (fun r Y=>∃w:Int,r= zI w∧0≤w∧(w≤n∨w=0)∧aU vd xs d Y):=by
 refine zC [.l X]<|zD 10<|zJ 6 (n <1) (fun h1=>?_) fun h1=>?_
 ·
  refine zD 6<|zR (zI 0) [] [0] X ⟨_,rfl,(by omega),(by omega),hD⟩
 refine zD 5<|jc [0] (aTo hN hD) ?_
 rintro _ X8 ⟨w8,rfl,hw8,hx8,hD8⟩
 refine zD 2<|ja (n+1) (by omega)<|zD 1<|jrm (k:= .u64) (a:=(aT .u64 w8 16)) (b:=(IntKind.u64.wrap (n+1))) 74 (toNonzero h1 hn)<|zD 4<|zR (zI (IntKind.i64.wrap (Int.tmod (aT .u64 w8 16) (IntKind.u64.wrap (n+1))))) [] [0] X8 ⟨_,rfl,(toRange h1 hn hw8).1,.inl (toRange h1 hn hw8).2,hD8⟩
theorem vk(hN:Dn ro vd xs)(hD:aU vd xs d X)(BG: -1000≤lo∧lo≤1000)(hhi: -1000≤hi∧hi≤1000):eg zT 35 [zP d,zI lo,zI hi] ro X (fun r Y=>∃w:Int,r= zI w∧lo≤w∧(w≤hi∨w=lo)∧aU vd xs d Y):=by
 refine zC [.l X]<|zD 10<|ja (hi-lo) (by omega)<|jc (vs:=[zP d,zI (hi-lo)]) [0] (yD hN hD (by omega)) ?_
 rintro _ X12 ⟨w12,rfl,baG,qJ,aSN⟩
 refine ja (lo+w12) (by omega)<|zD 3<|zR (zI (lo+w12)) [] [0] X12 ⟨_,rfl,(by omega),(by omega),aSN⟩
theorem m8(hN:Dn ro vd xs)(hD:aU vd xs d X)(hn:0≤n∧n≤1000):eg zT 29 [zP d,zI n] ro X (fun r Y=>∃w:Bool,r= .bool w∧aU vd xs d Y):=by
 refine zC [.l X]<|zD 8<|ja (n-1) (by omega)<|jc (vs:=[zP d,zI (n-1)]) [0] (yD hN hD (by omega)) ?_
 rintro _ X8 ⟨w8,rfl,hw8,hx8,hD8⟩
 refine zD 4<|zR (.bool (decide (w8=0))) [] [0] X8 ⟨_,rfl,hD8⟩
def bs(l:List Nat):ByteArray:=⟨(l.map UInt8.ofNat).toArray⟩
abbrev qd(x:ByteArray):List Value:=[.string x]
structure aY where
 f:ByteArray
 t:ByteArray
abbrev gG(x:aY):List Value:=[.string x.f,.string x.t]
structure ah where
 name:ByteArray
 st:Int
 no:Int
 head:Int
 bold:Bool
abbrev cb(x:ah):List Value:=[.string x.name,.int .i64 x.st,.int .i64 x.no,.int .i64 x.head,.bool x.bold]
structure bZ where
 a:Int
 b:Int
 same:Bool
variable {fs:List bZ}
abbrev nz(x:bZ):List Value:=[.int .i64 x.a,.int .i64 x.b,.bool x.same]
structure bP where
 name:ByteArray
 under:Int
variable {cs:List bP}
abbrev pN(x:bP):List Value:=[.string x.name,.int .i64 x.under]
structure aE where
 k:Int
 st:Int
 ot:Int
 fn:Int
 fl:Int
 tn:Int
 tl:Int
abbrev ju(x:aE):List Value:=[.int .i64 x.k,.int .i64 x.st,.int .i64 x.ot,.int .i64 x.fn,.int .i64 x.fl,.int .i64 x.tn,.int .i64 x.tl]
theorem nT{ps:List α}{x y:α}(h1:ps[i]?=some x) (h2:ps[k]?=some y):((ps.set i y).set k x).Perm ps:=by
 obtain⟨a,rfl⟩:=List.getElem?_eq_some_iff.1 h1
 obtain⟨b,rfl⟩:=List.getElem?_eq_some_iff.1 h2
 exact List.set_set_perm a b
theorem Pt(hN:Dn ro vd xs)(hD:aU vd xs d X)(hm:bD ro vm 1 cB ys)(hy:0 <ys.length∧ys.length≤1000):eg zT 36 [zP d,vm] ro X (fun r Y=>∃w:Int,r= zI w∧w∈ys∧aU vd xs d Y):=by
 obtain⟨qma,qmb,qmo,qmc,rfl,qmk,qmh,qml⟩:=hm
 refine zC [.l X]<|zD 10<|ja ((ys.length:Int)-1) (by omega)<|jc (vs:=[zP d,zI ((ys.length:Int)-1)]) [0] (yD hN hD (by omega)) ?_
 rintro _ X10 ⟨w10,rfl,ahA,sL,WJ⟩
 obtain⟨x11,VH⟩:=zG ys (w10.toNat)
 refine P6 w10 qmc 1 qmh VH (by omega)<|jl 0 (qml _ _ VH)<|zD 3<|zR (zI x11) [] [0] X10 ⟨_,rfl,zL VH,WJ⟩
theorem aah{ys:List ByteArray}(hN:Dn ro vd xs)(hD:aU vd xs d X)(hm:bD ro vm 1 qd ys)(hy:0 <ys.length∧ys.length≤1000):eg zT 11 [zP d,vm] ro X (fun r Y=>∃w:ByteArray,r= .string w∧w∈ys∧aU vd xs d Y):=by
 obtain⟨qma,qmb,qmo,qmc,rfl,qmk,qmh,qml⟩:=hm
 refine zC [.l X]<|zD 10<|ja ((ys.length:Int)-1) (by omega)<|jc (vs:=[zP d,zI ((ys.length:Int)-1)]) [0] (yD hN hD (by omega)) ?_
 rintro _ X10 ⟨w10,rfl,ahA,sL,WJ⟩
 obtain⟨x11,VH⟩:=zG ys (w10.toNat)
 refine P6 w10 qmc 1 qmh VH (by omega)<|jl 0 (qml _ _ VH)<|zD 3<|zR (.string x11) [] [0] X10 ⟨_,rfl,zL VH,WJ⟩
theorem akE{n:Nat}(hN:Dn ro vd xs)(hD:aU vd xs d X)(hn:n≤100):eg zT 65 [zP d,zI (n:Int)] ro X (fun r Y=>∃(ps:List Int) (L X':Cells),ay r 1 3 cB ps L∧ps.Perm (cG n)∧Y=L++X'∧aU vd xs d X'):=by
 refine zC [.l X]<|zD 14<|nY<|dV [1,1,0,1,0,0] [] (fun(zz:Nat×Value×Cells)=>[(0,zP d),(1,zI (n:Int)),(4,zS),(5,zz.2.1),(6,zI (zz.1:Int))]) (fun zz=>[.l zz.2.2,.l X]) (fun zz=>zz.1≤n∧ay zz.2.1 1 3 cB (cG zz.1) zz.2.2) (fun zz=>n-zz.1) (⟨0,zS,[]⟩) ⟨by omega,ay.nil _ _ _⟩ [0,1] ?_
 rintro⟨k,v,L⟩ hI K1 bO rest
 dsimp only at hI
 refine zD 7<|zJ 12 ((k:Int) <(n:Int)) (fun h1=>?_) fun h1=>?_
 ·
  refine zD 7<|jn fun b17=>iC (sz:=1) (ps:=cG k) (qs:=[(k:Int)]) (enc:=cB) (w:= .slice (some ⟨b17,0,none⟩) 1 1) [1] [0] [(b17,.cells ⟨([(k:Int)].map cB).flatten⟩ 3 (0,0))] (hI.2) (fun s _ hZ=>bL [(k:Int)] (hZ _ (.head _)) (by intro p hp;rfl)) (fun p _=>ai rfl) (by simp[cG];omega) (fun v18 L18 ahZ=>?_)
  obtain⟨aen,Ur,OW⟩:=ahZ.form
  subst OW
  refine zD 4<|ja ((k:Int)+1) (by omega)<|zD 2<|bA bO (⟨k+1,(.slice aen ((cG k++[(k:Int)])).length Ur),L18⟩) ⟨by omega,by rw[wy];exact ahZ⟩ (by omega) [0,2] (Sub.refl _)
 refine zD 6<|ja ((n:Int)-1) (by omega)<|zD 3<|dV [1,1,1,0,1,0,0] [] (fun(zz:Int×Value×Cells×(List Int)×Cells)=>[(0,zP d),(4,zS),(5,zz.2.1),(7,zI zz.1)]) (fun zz=>[.l zz.2.2.1,.l zz.2.2.2.2]) (fun zz=>(-1≤zz.1∧zz.1 <n)∧ay zz.2.1 1 3 cB zz.2.2.2.1 zz.2.2.1∧zz.2.2.2.1.Perm (cG n)∧aU vd xs d zz.2.2.2.2) (fun zz=>zz.1.toNat) (⟨(n:Int)-1,v,L,cG k,X⟩) ⟨by omega,hI.2,(by rw[show k=n by omega]),hD⟩ [0,1] ?_
 rintro⟨j,v,L,ps,X⟩ O8 K2 mr rest
 dsimp only at O8
 have hlen:ps.length=n:=by rw[O8.2.2.1.length_eq,gV]
 refine zD 6<|zJ 22 (j>0) (fun h2=>?_) fun h2=>?_
 ·
  refine zD 8<|jc (vs:=[zP d,zI j]) [1] (yD hN O8.2.2.2 (by omega)) ?_
  rintro _ X27 ⟨w27,rfl,baC,Km,aSI⟩
  refine zD 6 ?_
  obtain⟨oI,jk⟩:=zG ps (j.toNat)
  refine pZ j 1 O8.2.1 jk (by omega) fun b30 Wd=>mT 0 [1] L (fun s _ hZ=>bR O8.2.1 Wd hZ jk)<|zD 8 ?_
  obtain⟨x36,Ab⟩:=zG ps (w27.toNat)
  refine pZ w27 1 O8.2.1 Ab (by omega) fun ng ayd=>mT 0 [1] L (fun s _ hZ=>bR O8.2.1 ayd hZ Ab) ?_
  obtain⟨x38,OL⟩:=zG ps (j.toNat)
  refine pZ j 1 O8.2.1 OL (by omega) fun b38 aRR=>MC 1 0 [zI x36] x36 O8.2.1 aRR OL rfl rfl (Nat.le_of_ble_eq_true rfl) fun L3 ho4=>zD 5 ?_
  obtain⟨x42,HL⟩:=zG ((ps.set j.toNat x36)) (w27.toNat) (by first|omega| (simp only[List.length_set,zM];omega))
  refine pZ w27 1 ho4 HL (by omega) fun b42 ayc=>MC 0 0 [zI oI] oI ho4 ayc HL rfl rfl (Nat.le_of_ble_eq_true rfl) fun L5 ho6=>zD 3<|ja (j-1) (by omega)<|zD 2<|bA mr (⟨j-1,v,L5,((ps.set j.toNat x36).set w27.toNat oI),X27⟩) ⟨by omega,ho6,(nT jk Ab).trans O8.2.2.1,aSI⟩ (by omega) [0,1] (Sub.refl _)
 refine zD 8<|zR (v) [] [0,1] (L++X) ⟨_,_,_,O8.2.1,O8.2.2.1,rfl,O8.2.2.2⟩
theorem Ti(p:Int→Bool)(k:Nat):(cG (k+1)).filter p=bif p (k:Int) then (cG k).filter p++[(k:Int)] else (cG k).filter p:=by
 rw[wy,List.filter_append]
 cases h:p (k:Int)<;>simp[h]
theorem nQ{n:Nat}{x:Int}(h:x∈cG n):0≤x∧x <n:=by
 simp only[cG,List.mem_map,List.mem_range] at h
 obtain⟨i,h1,rfl⟩:=h
 omega
theorem sA(n:Nat):(cG n).Pairwise (· < ·):=by
 simp only[cG]
 rw[List.pairwise_map]
 exact List.pairwise_lt_range.imp fun h=>by omega
theorem Au(x:Int)(l:List Int)(k:Nat):x∈l→(k:Int)≤cw (fun y=>decide (y=x)) l k∧∃i,cw (fun y=>decide (y=x)) l k=k+i∧l[i.toNat]?=some x∧0≤i:=by
 induction l generalizing k with
 |nil=>intro h;cases h
 |cons y l ih=>
  intro h
  by_cases e:y=x
  ·subst e
   simp only[cw,decide_true,cond_true]
   exact⟨Int.le_refl _,0,by simp,by simp,by simp⟩
  simp only[cw,e,decide_false,cond_false]
  obtain⟨h1,i,h2,h3,h4⟩:=ih (k+1) ((List.mem_cons.1 h).resolve_left fun e2=>e e2.symm)
  refine⟨by omega,i+1,by rw[h2];omega,?_,by omega⟩
  rw[show (i+1).toNat=i.toNat+1 by omega]
  simpa using h3
theorem afH{q:List Int}{n:Nat}(hq:q.Perm (cG n)):((cG n).filter fun i=>decide (cw (fun y=>decide (y=i)) q 0 <many)).length≤many.toNat:=by
 have jm:∀x,x∈cG n→x∈q:=fun x hx=>hq.mem_iff.2 hx
 have h1:(((cG n).filter fun i=>decide (cw (fun y=>decide (y=i)) q 0 <many)).map fun i=>cw (fun y=>decide (y=i)) q 0).Nodup:=by
  rw[List.nodup_iff_pairwise_ne,List.pairwise_map]
  refine((sA n).filter _).imp_of_mem fun {a b} ha hb xZ e=>?_
  obtain⟨_,i,e1,g1,_⟩:=Au a q 0 (jm a ((List.mem_filter.1 ha).1))
  obtain⟨_,j,e2,g2,_⟩:=Au b q 0 (jm b ((List.mem_filter.1 hb).1))
  have:i=j:=by omega
  subst this
  rw[g1] at g2
  cases g2
  omega
 have h2:=xV (l₂:=cG many.toNat) h1 fun x hx=>by
  obtain⟨i,h3,rfl⟩:=List.mem_map.1 hx
  obtain⟨h4,h5⟩:=List.mem_filter.1 h3
  have h6:=of_decide_eq_true h5
  obtain⟨h7,_⟩:=Au i q 0 (jm i h4)
  simp only[cG,List.mem_map,List.mem_range]
  exact⟨(cw (fun y=>decide (y=i)) q 0).toNat,by omega,by omega⟩
 simpa [gV] using h2
theorem KD(p:α→Bool)(l:List α):(l.filter p).length≤l.length:=List.length_filter_le p l
theorem aIi{n:Nat}(hN:Dn ro vd xs)(hD:aU vd xs d X)(hn:n≤100):eg zT 67 [zP d,zI (n:Int),zI many] ro X (fun r Y=>∃(ps:List Int) (L X':Cells),ay r 1 3 cB ps L∧ps.length≤many.toNat∧ps.Pairwise (· < ·)∧(∀x∈ps,0≤x∧x <n)∧Y=L++X'∧aU vd xs d X'):=by
 refine zC [.l X]<|zD 8<|jc (vs:=[zP d,zI (n:Int)]) [0] (akE hN hD (by first|omega|decide)) ?_
 rintro v13 _ ⟨abu,L13,X13,VW,aca,rfl,aps⟩
 refine jg 0 [.l L13,.l X13]<|zD 12<|nY<|dV [1,1,1,0,1,0,0] [] (fun(zz:Nat×Value×Cells)=>[(1,zI (n:Int)),(2,zI many),(6,zS),(7,v13),(8,zz.2.1),(9,zI (zz.1:Int))]) (fun zz=>[.l zz.2.2,.l L13,.l X13]) (fun zz=>zz.1≤n∧ay zz.2.1 1 3 cB ((cG zz.1).filter (fun i=>decide (cw (fun y=>decide (y=i)) abu 0 <many))) zz.2.2) (fun zz=>n-zz.1) (⟨0,zS,[]⟩) ⟨by omega,ay.nil _ _ _⟩ [0,1,2] ?_
 rintro⟨k,v,L⟩ hI K1 bO rest
 dsimp only at hI
 have hlen:abu.length=n:=by rw[aca.length_eq,gV]
 have vK:=KD (fun i=>decide (cw (fun y=>decide (y=i)) abu 0 <many)) (cG k)
 rw[gV] at vK
 refine zD 7<|zJ 16 ((k:Int) <(n:Int)) (fun h1=>?_) fun h1=>?_
 ·
  refine zD 8<|jp (vs:=[v13,zI (k:Int)]) [1] L13 (fun aH hs hZ=>avM (VW.jL hZ) (by first|omega| (simp only[List.length_set,zM];omega))) ?_
  refine zD 8<|zJ 24 ((cw (fun y=>decide (y=(k:Int))) abu 0) <many) (fun h2=>?_) fun h2=>?_
  ·
   refine zD 4<|jn fun b27=>iC (sz:=1) (ps:=((cG k).filter (fun i=>decide (cw (fun y=>decide (y=i)) abu 0 <many)))) (qs:=[(k:Int)]) (enc:=cB) (w:= .slice (some ⟨b27,0,none⟩) 1 1) [1] [0] [(b27,.cells ⟨([(k:Int)].map cB).flatten⟩ 3 (0,0))] (hI.2) (fun s _ hZ=>bL [(k:Int)] (hZ _ (.head _)) (by intro p hp;rfl)) (fun p _=>ai rfl) (by simp only[List.length_cons,List.length_nil];omega) (fun v28 L28 ahV=>?_)
   obtain⟨aL3,aLK,ack⟩:=ahV.form
   subst ack
   refine zD 4<|ja ((k:Int)+1) (by omega)<|zD 2<|bA bO (⟨k+1,(.slice aL3 ((((cG k).filter (fun i=>decide (cw (fun y=>decide (y=i)) abu 0 <many)))++[(k:Int)])).length aLK),L28⟩) ⟨by omega,by rw[Ti,decide_eq_true h2];exact ahV⟩ (by omega) [0,2,3] (Sub.refl _)
  refine zD 4<|ja ((k:Int)+1) (by omega)<|zD 2<|bA bO (⟨k+1,v,L⟩) ⟨by omega,by rw[Ti,decide_eq_false h2];exact hI.2⟩ (by omega) [0,1,2] (Sub.refl _)
 refine zD 8<|zR (v) [] [0,2] (L++X13) ⟨_,_,_,hI.2,by rw[show k=n by omega];exact afH aca,(sA k).filter _,fun x hx=>by have:=nQ ((List.mem_filter.1 hx).1);omega,rfl,aps⟩
def aso:List ByteArray:=[bs [101],bs [121],bs [115,104],bs [97],bs [110,110],bs [116,104],bs [109]]
def toW:List ByteArray:=[bs [],bs [105],bs [115],bs [116],bs [97,101],bs [106],bs [110]]
def DN(r:aY):Prop:=r.f∈aso∧r.t∈toW
def iO(c:aE):Prop:=c∈[(⟨1,0,0,0,0,0,0⟩:aE),⟨2,0,0,0,0,0,0⟩,⟨1,1,0,0,0,0,0⟩,⟨2,1,0,0,0,0,0⟩,⟨4,1,0,0,0,0,0⟩]
theorem lE{p:α→Prop}{l:List α}{x:α}(h:∀y∈l,p y)(hx:p x):∀y∈l++[x],p y:=fun y hy=>by
 rcases List.mem_append.1 hy with h1|h1
 ·exact h y h1
 rw[List.mem_singleton] at h1;subst h1;exact hx
theorem akD(hN:Dn ro vd xs)(hD:aU vd xs d X)(hn:0≤many∧many≤100):eg zT 31 [zP d,zI many] ro X (fun r Y=>∃(ps:List aY) (L X':Cells),ay r 2 45 gG ps L∧ps.length≤many∧(∀r∈ps,DN r)∧Y=L++X'∧aU vd xs d X'):=by
 refine zC [.l X]<|zD 13<|jc (vs:=[zP d,zI many]) [0] (yD hN hD (by omega)) ?_
 rintro _ X10 ⟨w10,rfl,ahA,sL,WJ⟩
 refine zD 3<|nY<|dV [1,1,0,1,0,0] [] (fun(zz:Int×Value×Cells×(List aY)×Cells)=>[(0,zP d),(4,zS),(5,zz.2.1),(6,zI zz.1)]) (fun zz=>[.l zz.2.2.1,.l zz.2.2.2.2]) (fun zz=>(0≤zz.1∧zz.2.2.2.1.length+zz.1≤many)∧ay zz.2.1 2 45 gG zz.2.2.2.1 zz.2.2.1∧(∀r∈zz.2.2.2.1,DN r)∧aU vd xs d zz.2.2.2.2) (fun zz=>zz.1.toNat) (⟨w10,zS,[],[],X10⟩) ⟨by simp only[List.length_nil];omega,ay.nil _ _ _,(fun _ h=>by cases h),WJ⟩ [0,1] ?_
 rintro⟨j,v,L,ps,X⟩ hI K1 bO rest
 dsimp only at hI
 refine zD 6<|zJ 12 (j>0) (fun h1=>?_) fun h1=>?_
 ·
  refine zD 7<|jn fun b16=>Sd (vs:=[zP d,.slice (some ⟨b16,0,none⟩) 7 7]) [2] [0] [(b16,.cells ⟨([(bs [101]),(bs [121]),(bs [115,104]),(bs [97]),(bs [110,110]),(bs [116,104]),(bs [109])].map qd).flatten⟩ 9 (0,0))] (fun aH hs hZ=>aah (hN.up hs) hI.2.2.2 (bK [(bs [101]),(bs [121]),(bs [115,104]),(bs [97]),(bs [110,110]),(bs [116,104]),(bs [109])] hZ.head (by intro p hp;rfl)) (by decide)) ?_
  rintro _ X17 ⟨w17,rfl,aPg,aSM⟩
  refine zD 1<|jn fun Jm=>Sd (vs:=[zP d,.slice (some ⟨Jm,0,none⟩) 7 7]) [1] [0] [(Jm,.cells ⟨([(bs []),(bs [105]),(bs [115]),(bs [116]),(bs [97,101]),(bs [106]),(bs [110])].map qd).flatten⟩ 9 (0,0))] (fun aH hs hZ=>aah (hN.up hs) aSM (bK [(bs []),(bs [105]),(bs [115]),(bs [116]),(bs [97,101]),(bs [106]),(bs [110])] hZ.head (by intro p hp;rfl)) (by decide)) ?_
  rintro _ X20 ⟨w20,rfl,awl,ajd⟩
  refine zD 1<|jn fun b7=>jd 5 [0,0]<|jn fun EP=>iC (sz:=2) (ps:=ps) (qs:=[(⟨w17,w20⟩:aY)]) (enc:=gG) (w:= .slice (some ⟨EP,0,none⟩) 1 1) [5] [0] [(EP,.cells ⟨([(⟨w17,w20⟩:aY)].map gG).flatten⟩ 45 (0,0))] (hI.2.1) (fun s _ hZ=>bL [(⟨w17,w20⟩:aY)] (hZ _ (.head _)) (by intro p hp;rfl)) (fun p _=>ai rfl) (by simp<;>omega) (fun v25 L25 ahX=>?_)
  obtain⟨aL5,aLM,aRf⟩:=ahX.form
  subst aRf
  refine zD 4<|ja (j-1) (by omega)<|zD 2<|bA bO (⟨j-1,(.slice aL5 ((ps++[(⟨w17,w20⟩:aY)])).length aLM),L25,(ps++[(⟨w17,w20⟩:aY)]),X20⟩) ⟨by simp only[zM];omega,ahX,lE hI.2.2.1 ⟨aPg,awl⟩,ajd⟩ (by omega) [0,3] (Sub.refl _)
 refine zD 8<|zR (v) [] [0,1] (L++X) ⟨_,_,_,hI.2.1,(by omega),hI.2.2.1,rfl,hI.2.2.2⟩
theorem apR(hN:Dn ro vd xs)(hD:aU vd xs d X):eg zT 30 [zP d] ro X (fun r Y=>∃w:aE,r= .agg ⟨ju w⟩∧iO w∧aU vd xs d Y):=by
 refine zC [.l X]<|zD 2<|jn fun b2=>zD 8<|jn fun b9=>zD 9<|jc (vs:=[zP d,zI 4]) [2] (yD hN hD (by omega)) ?_
 rintro _ X15 ⟨w15,rfl,aPh,ahr,ayP⟩
 obtain⟨Cg,mU⟩:=zG ([(⟨1,0,0,0,0,0,0⟩:aE),(⟨2,0,0,0,0,0,0⟩:aE),(⟨1,1,0,0,0,0,0⟩:aE),(⟨2,1,0,0,0,0,0⟩:aE),(⟨4,1,0,0,0,0,0⟩:aE)]:List _) (w15.toNat) (show w15.toNat <5 from by omega)
 refine P6 (a:=(some ⟨b9,0,none⟩)) (b:=b9) (off:=0) w15 5 7 (fun _ _=>rfl) mU (by omega)<|mT (m:=7) 0 [1] [(b9,.cells ⟨([(⟨1,0,0,0,0,0,0⟩:aE),(⟨2,0,0,0,0,0,0⟩:aE),(⟨1,1,0,0,0,0,0⟩:aE),(⟨2,1,0,0,0,0,0⟩:aE),(⟨4,1,0,0,0,0,0⟩:aE)].map ju).flatten⟩ 83 (0,0))] (fun s _ hZ=>xS (hZ _ (.head _)) (by intro p hp;rfl) mU) ?_
 refine jd 3 [2]<|zR (.agg ⟨[zI Cg.k,zI Cg.st,zI Cg.ot,zI Cg.fn,zI Cg.fl,zI Cg.tn,zI Cg.tl]⟩) [2] [0] X15 ⟨Cg,rfl,zL mU,ayP⟩
def Hx(b:UInt8):Bool:=Nat.ble 97 b.toNat&&Nat.ble b.toNat 122
def Hf(b:UInt8):Bool:=Nat.ble 65 b.toNat&&(Nat.ble b.toNat 90&& !(Nat.beq b.toNat 72||Nat.beq b.toNat 81||Nat.beq b.toNat 87))
def Script(w:ByteArray):Prop:=(∀b∈w.data.toList,Hx b=true)∨(∀b∈w.data.toList,Hf b=true)
def aaI(w:ByteArray):Prop:=(0 <w.size∧w.size≤7)∧Script w
def DR(w:ByteArray):Prop:=(1≤w.size∧w.size≤3)∧Script w
theorem ae0{w:ByteArray}(h:(w.data.toList.all Hx||w.data.toList.all Hf)=true)(h1:(Nat.blt 0 w.size&&Nat.ble w.size 7)=true):aaI w:=by
 simp only[Bool.or_eq_true,List.all_eq_true] at h
 simp only[Bool.and_eq_true,Nat.blt_eq,Nat.ble_eq] at h1
 exact⟨h1,h⟩
theorem aCO{w:ByteArray}(h:w∈[bs [97,101,115],bs [115,104,101,116,97],bs [115,109,105,116,121,104,97],bs [99,104,106,97],bs [97,110,110,101]]):aaI w:=by
 simp only[List.mem_cons,List.not_mem_nil,or_false] at h
 rcases h with rfl|rfl|rfl|rfl|rfl<;>exact ae0 (by decide) (by decide)
theorem aCN{w:ByteArray}(h:w∈[bs [65,69,83],bs [88,69,84,65],bs [83,77,73,84,89,65],bs [67,74,65,88],bs [65,78,78,69]]):aaI w:=by
 simp only[List.mem_cons,List.not_mem_nil,or_false] at h
 rcases h with rfl|rfl|rfl|rfl|rfl<;>exact ae0 (by decide) (by decide)
def nN:List ByteArray:=[bs [102,111,111,100],bs [98,114,101,97,100],bs [99,108,111,116,104],bs [104,97,116,115],bs [119,111,111,100],bs [105,114,111,110],bs [98,101,101,114],bs [105,110],bs [115,101,101]]
def pU:List ByteArray:=[bs [98,97,107,101,114],bs [98,97,107,101,114,115],bs [98,111,110,110,101,116,115],bs [98,114,101,119,101,114],bs [98,114,117,115,104,101,115],bs [98,117,116,99,104,101,114],bs [99,97,110,100,108,101,115],bs [99,111,111,112,101,114],bs [99,111,111,112,101,114,115],bs [99,117,116,108,101,114],bs [104,97,116,116,101,114],bs [104,111,115,105,101,114],bs [109,101,114,99,101,114],bs [109,105,108,108,105,110,101,114],bs [116,97,105,108,111,114],bs [116,97,110,110,101,114]]
theorem Bm{n:Nat}{enc:α→List Value}(ps:List α)(hn:ps.length=n)(hl:∀p∈ps,(enc p).length=sz):ay (.slice (some ⟨b,0,none⟩) n n) sz T enc ps [(b,.cells ⟨(ps.map enc).flatten⟩ T (0,0))]:=by
 subst hn
 exact .inr ⟨b,_,ps.length,rfl,rfl,kD ps hl,Nat.le_refl _,hl,by rw[←kD ps hl,List.take_length]⟩
theorem UD{s t w:ByteArray}(h:∀b∈s.data.toList,b∈w.data.toList)(k:∀b∈t.data.toList,b∈w.data.toList):∀b∈(s++t).data.toList,b∈w.data.toList:=fun b hb=>by
 rw[ByteArray.data_append,Array.toList_append,List.mem_append] at hb
 exact hb.elim (h b) (k b)
theorem QO{w:ByteArray}(i j:Nat):∀b∈(w.extract i j).data.toList,b∈w.data.toList:=fun b hb=>by
 rw[ByteArray.data_extract,Array.toList_extract] at hb
 exact List.mem_of_mem_drop (List.mem_of_mem_take (by simpa [List.extract] using hb))
theorem UO{s w:ByteArray}(h:∀b∈s.data.toList,b∈w.data.toList)(hw:Script w):Script s:=hw.imp (fun k b hb=>k b (h b hb)) (fun k b hb=>k b (h b hb))
theorem EJ(hN:Dn ro vd xs)(hD:aU vd xs d X):eg zT 34 [zP d,zI 3] ro X (fun r Y=>∃w:ByteArray,r= .string w∧DR w∧aU vd xs d Y):=by
 refine zC [.l X]<|zD 7<|jn fun lL=>Sd (vs:=[zP d,.slice (some ⟨lL,0,none⟩) 5 5]) [1] [0] [(lL,.cells ⟨([(bs [97,101,115]),(bs [115,104,101,116,97]),(bs [115,109,105,116,121,104,97]),(bs [99,104,106,97]),(bs [97,110,110,101])].map qd).flatten⟩ 9 (0,0))] (fun aH hs hZ=>aah (hN.up hs) hD (bK [(bs [97,101,115]),(bs [115,104,101,116,97]),(bs [115,109,105,116,121,104,97]),(bs [99,104,106,97]),(bs [97,110,110,101])] hZ.head (by intro p hp;rfl)) (by decide)) ?_
 rintro _ X11 ⟨w11,rfl,aPj,aSO⟩
 refine zD 6<|jc (vs:=[zP d,zI 3]) [0] (m8 hN aSO (by omega)) ?_
 rintro _ X13 ⟨w13,rfl,aps⟩
 refine zD 1<|yK [1,1,1] [] (fun(zz:ByteArray×Cells)=>[(0,zP d),(1,zI 3),(4,.string (bs [])),(5,.string zz.1)]) (fun zz=>[.l zz.2]) (fun zz=>aaI zz.1∧aU vd xs d zz.2) ?_ (fun K1 bO=>?_)
 ·
  rintro⟨w,X⟩ hJ rest
  dsimp only at hJ
  obtain⟨⟨Zz,hw7⟩,sM⟩:=hJ.1
  refine zD 9<|jmn (k:= .i64) (a:=3) (b:=6)<|jc (vs:=[zP d,zI 1,zI (min 3 6)]) [0] (vk hN hJ.2 (by omega) (by omega)) ?_
  rintro _ X20 ⟨w20,rfl,awl,ON,ajd⟩
  refine zD 3<|dV [1,1,1,1,0,1,0,0] [] (fun(zz:Int×ByteArray×Cells)=>[(0,zP d),(4,.string (bs [])),(5,.string w),(6,.string zz.2.1),(7,zI zz.1)]) (fun zz=>[.l zz.2.2]) (fun zz=>(0≤zz.1∧zz.2.1.size+zz.1=w20)∧(∀b∈zz.2.1.data.toList,b∈w.data.toList)∧aU vd xs d zz.2.2) (fun zz=>zz.1.toNat) (⟨w20,bs [],X20⟩) ⟨⟨by omega,by simp[bs,ByteArray.size]⟩,(fun _ h=>by simp[bs] at h),ajd⟩ [0] ?_
  rintro⟨j,t,Z⟩ hI K2 mr rest
  dsimp only at hI
  refine zD 6<|zJ 22 (j>0) (fun h1=>?_) fun h1=>?_
  ·
   refine zD 9<|ja ((w.size:Int)-1) (by omega)<|jc (vs:=[zP d,zI ((w.size:Int)-1)]) [0] (yD hN hI.2.2 (by omega)) ?_
   rintro _ X29 ⟨w29,rfl,baB,Bw,aSH⟩
   refine zD 7<|ja (w29+1) (by omega)<|jtB (b:=w) (lo:=w29) (hi:=(w29+1)) (by omega)<|jsa (a:=t) (b:=(w.extract w29.toNat (w29+1).toNat)) 9 (by rw[ByteArray.size_extract];omega) ?_
   refine zD 4<|ja (j-1) (by omega)<|zD 2<|bA mr (⟨j-1,(t++(w.extract w29.toNat (w29+1).toNat)),X29⟩) ⟨⟨by omega,by rw[ByteArray.size_append,ByteArray.size_extract];omega⟩,UD hI.2.1 (QO _ _),aSH⟩ (by omega) [0] (Sub.refl _)
  refine zD 8<|zR (.string t) [] [0] Z ⟨_,rfl,⟨by omega,UO hI.2.1 sM⟩,hI.2.2⟩
 refine js 13 w13 (fun h2=>?_) (fun h2=>?_)
 ·
  subst h2
  refine zD 3<|jn fun Jn=>Sd (vs:=[zP d,.slice (some ⟨Jn,0,none⟩) 5 5]) [1] [0] [(Jn,.cells ⟨([(bs [65,69,83]),(bs [88,69,84,65]),(bs [83,77,73,84,89,65]),(bs [67,74,65,88]),(bs [65,78,78,69])].map qd).flatten⟩ 9 (0,0))] (fun aH hs hZ=>aah (hN.up hs) aps (bK [(bs [65,69,83]),(bs [88,69,84,65]),(bs [83,77,73,84,89,65]),(bs [67,74,65,88]),(bs [65,78,78,69])] hZ.head (by intro p hp;rfl)) (by decide)) ?_
  rintro _ X16 ⟨w16,rfl,aFl,ajl⟩
  refine zD 2<|bA bO ⟨w16,X16⟩ ⟨aCN aFl,ajl⟩ Nat.zero_lt_one [0] (Sub.refl _)
 subst h2
 refine zD 2<|bA bO ⟨w11,X13⟩ ⟨aCO aPj,aps⟩ Nat.zero_lt_one [0] (Sub.refl _)
theorem agX:eg zT 66 [] ro [] (fun r Y=>∃L,ay r 1 9 qd nN L∧Y=L):=by
 refine zE<|zD 6<|jn fun b1=>zD 3<|zR (.slice (some ⟨b1,0,none⟩) 9 9) [] [0] [(b1,.cells ⟨[.string (bs [102,111,111,100]),.string (bs [98,114,101,97,100]),.string (bs [99,108,111,116,104]),.string (bs [104,97,116,115]),.string (bs [119,111,111,100]),.string (bs [105,114,111,110]),.string (bs [98,101,101,114]),.string (bs [105,110]),.string (bs [115,101,101])]⟩ 9 (0,0))] ⟨_,Bm nN rfl (by intro p hp;rfl),rfl⟩
theorem ahd:eg zT 68 [] ro [] (fun r Y=>∃L,ay r 1 9 qd pU L∧Y=L):=by
 refine zE<|zD 6<|jn fun b1=>zD 3<|zR (.slice (some ⟨b1,0,none⟩) 16 16) [] [0] [(b1,.cells ⟨[.string (bs [98,97,107,101,114]),.string (bs [98,97,107,101,114,115]),.string (bs [98,111,110,110,101,116,115]),.string (bs [98,114,101,119,101,114]),.string (bs [98,114,117,115,104,101,115]),.string (bs [98,117,116,99,104,101,114]),.string (bs [99,97,110,100,108,101,115]),.string (bs [99,111,111,112,101,114]),.string (bs [99,111,111,112,101,114,115]),.string (bs [99,117,116,108,101,114]),.string (bs [104,97,116,116,101,114]),.string (bs [104,111,115,105,101,114]),.string (bs [109,101,114,99,101,114]),.string (bs [109,105,108,108,105,110,101,114]),.string (bs [116,97,105,108,111,114]),.string (bs [116,97,110,110,101,114])]⟩ 9 (0,0))] ⟨_,Bm pU rfl (by intro p hp;rfl),rfl⟩
structure bB where
 word:ByteArray
 cls:Int
 oL:Int
 ee:Value
abbrev mw(x:bB):List Value:=[.string x.word,zI x.cls,zI x.oL,x.ee]
def XN(hs:List bB)(i:Int):Prop:=0≤i∧∃h,hs[i.toNat]?=some h∧0≤h.cls
theorem Xv{p:α→Bool}{l:List α}{x:α}(h:l[k]?=some x):(l.drop k).any p=(p x||(l.drop (k+1)).any p):=by rw[eX h];rfl
theorem aqe{p:α→Bool}{l:List α}(h:¬k <l.length):(l.drop k).any p=false:=by rw[eE h];rfl
def A8(fs:List bZ)(a b:Int):Bool:=fs.any fun y=>decide (y.a=a)&&decide (y.b=b)
theorem lK{hs:List bB}(hN:Dn ro vd xs)(hD:aU vd xs d X)(hh:bD ro vh 4 mw hs)(hn:hs.length≤100):eg zT 33 [zP d,.agg ⟨[zI 2,zI 0,zI 0,vc,vh,zS,zS]⟩,.string nm] ro X (fun r Y=>∃w:ah,r= .agg ⟨cb w⟩∧w.name=nm∧(0≤w.st∧w.st≤1)∧(w.head= -1∨XN hs w.head)∧aU vd xs d Y):=by
 obtain⟨cF,rH,rG,cy,rfl,tv,pw,pn⟩:=hh
 refine zC [.l X]<|zD 2<|jn fun b4=>jn fun b6=>jd 8 [1]<|jc (vs:=[zP d,zI 1]) [2] (yD hN hD (by omega)) ?_
 rintro _ X15 ⟨w15,rfl,aPh,ahr,ayP⟩
 refine zD 2<|jc (vs:=[zP d,zI 1,zI 3]) [0] (vk hN ayP (by omega) (by omega)) ?_
 rintro _ XA ⟨w18,rfl,baF,bau,KB⟩
 refine zD 1<|jc (vs:=[zP d,zI 1,zI 3]) [0] (vk hN KB (by omega) (by omega)) ?_
 rintro _ X20 ⟨w20,rfl,awl,ON,ajd⟩
 refine zD 1<|jc (vs:=[zP d,zI 1,zI 40]) [0] (vk hN ajd (by omega) (by omega)) ?_
 rintro _ X22 ⟨w22,rfl,baE,uF,aSK⟩
 refine jn fun b23=>Sd (vs:=[zP d,.slice (some ⟨b23,0,none⟩) 3 3]) [1] [0] [(b23,.cells ⟨([w18,w20,w22].map cB).flatten⟩ 3 (0,0))] (fun aH hs hZ=>Pt (hN.up hs) aSK (bK [w18,w20,w22] hZ.head (by intro p hp;rfl)) (by simp)) ?_
 rintro _ X24 ⟨w24,rfl,baD,aSJ⟩
 refine zD 1<|jc (vs:=[zP d,zI 4]) [0] (m8 hN aSJ (by omega)) ?_
 rintro _ X26 ⟨w26,rfl,aHz⟩
 refine zD 1<|jn fun b7=>jd 12 [0]<|nY<|dV [1,1,1,0,1,0,0] [] (fun(zz:Nat×Value×Cells×(List Int))=>[(0,zP d),(4,zP b4),(6,zP b6),(7,zP b7),(8,zz.2.1),(9,zI (zz.1:Int))]) (fun zz=>[.l zz.2.2.1,.l X26,.b b7 (.cells ⟨[.string nm,zI w15,zI w24,zI (-1),.bool w26]⟩ 55 (0,0)),.b b6 (.cells ⟨[.string ByteArray.empty,zI 0,zI 0,zI 0,.bool false]⟩ 55 (0,0)),.b b4 (.cells ⟨[zI 2,zI 0,zI 0,vc,.slice cF hs.length cy,zS,zS]⟩ 90 (0,0))]) (fun zz=>(zz.1≤hs.length∧zz.2.2.2.length≤zz.1)∧ay zz.2.1 1 3 cB zz.2.2.2 zz.2.2.1∧∀i∈zz.2.2.2,XN hs i) (fun zz=>hs.length-zz.1) (⟨0,zS,[],[]⟩) ⟨⟨by omega,by simp⟩,ay.nil _ _ _,(fun _ h=>by cases h)⟩ [0,2,1,4,5] ?_
 rintro⟨k,v,L,ps⟩ hI K1 bO rest
 dsimp only at hI
 refine jd 10 [4]<|zJ 33 ((k:Int) <(hs.length:Int)) (fun h1=>?_) fun h1=>?_
 ·
  refine jd 10 [4] ?_
  obtain⟨x40,awf⟩:=zG hs k
  refine iz cy 4 pw awf<|zD 1<|jl 1 (pn _ _ awf)<|zD 2<|zJ 43 (x40.cls≥0) (fun h2=>?_) fun h2=>?_
  ·
   refine zD 4<|jn fun b46=>iC (sz:=1) (ps:=ps) (qs:=[(k:Int)]) (enc:=cB) (w:= .slice (some ⟨b46,0,none⟩) 1 1) [1] [0] [(b46,.cells ⟨([(k:Int)].map cB).flatten⟩ 3 (0,0))] (hI.2.1) (fun s _ hZ=>bL [(k:Int)] (hZ _ (.head _)) (by intro p hp;rfl)) (fun p _=>ai rfl) (by simp<;>omega) (fun v47 L47 ahR=>?_)
   obtain⟨aLY,aLF,aRa⟩:=ahR.form
   subst aRa
   refine zD 4<|ja ((k:Int)+1) (by omega)<|zD 2<|bA bO (⟨k+1,(.slice aLY ((ps++[(k:Int)])).length aLF),L47,(ps++[(k:Int)])⟩) ⟨by simp only[zM];omega,ahR,lE hI.2.2 ⟨by omega,x40,awf,by assumption⟩⟩ (by omega) [0,2,3,4,5] (Sub.refl _)
  refine zD 4<|ja ((k:Int)+1) (by omega)<|zD 2<|bA bO (⟨k+1,v,L,ps⟩) ⟨by dsimp only;omega,hI.2⟩ (by omega) (zN 0 5) (Sub.refl _)
 refine zD 6<|yJ hI.2.1<|zD 2<|js 51 (decide ((ps.length:Int)>0)) (fun h3=>?_) (fun h3=>?_)
 ·
  have xd:=h3
  replace xd:=of_decide_eq_true xd
  refine zD 1<|jc (vs:=[zP d,zI 4]) [1] (m8 hN aHz (by omega)) ?_
  rintro _ X53 ⟨w53,rfl,apr⟩
  refine zD 3<|js 55 (!w53) (fun h4=>?_) (fun h4=>?_)
  ·
   try simp only[zB] at h4
   refine zD 5<|yJ hI.2.1<|ja ((ps.length:Int)-1) (by omega)<|jc (vs:=[zP d,zI ((ps.length:Int)-1)]) [0] (yD hN apr (by omega)) ?_
   rintro _ X61 ⟨w61,rfl,bay,aoB,aSE⟩
   obtain⟨x62,awc⟩:=zG ps (w61.toNat)
   refine pZ w61 1 hI.2.1 awc (by omega) fun b62 aRM=>mT 0 [1] L (fun s _ hZ=>bR hI.2.1 aRM hZ awc)<|jd 9 [2,2,3]<|zR (.agg ⟨[.string nm,zI w15,zI w24,zI x62,.bool w26]⟩) [3] [0] X61 ⟨⟨_,_,_,_,_⟩,rfl,rfl,(by dsimp only;omega),.inr (hI.2.2 _ (zL awc)),aSE⟩
  try simp only[zB] at h4
  refine jd 8 [2,3]<|zR (.agg ⟨[.string nm,zI w15,zI w24,zI (-1),.bool w26]⟩) [3] [0] X53 ⟨⟨_,_,_,_,_⟩,rfl,rfl,(by dsimp only;omega),.inl rfl,apr⟩
 have xd:=h3
 replace xd:=of_decide_eq_false xd
 refine jd 13 [2,3]<|zR (.agg ⟨[.string nm,zI w15,zI w24,zI (-1),.bool w26]⟩) [3] [1] X26 ⟨⟨_,_,_,_,_⟩,rfl,rfl,(by dsimp only;omega),.inl rfl,aHz⟩
theorem ahb(hm:bD ro vm 1 cB ys)(hn:ys.length≤1000):eg zT 27 [vm] ro [] (fun r Y=>∃L,ay r 1 3 cB ys L∧Y=L):=by
 obtain⟨qma,qmb,qmo,qmc,rfl,qmk,qmh,qml⟩:=hm
 refine zE<|zD 6<|jn fun b3=>zD 1<|iC (sz:=1) (ps:=[]) (qs:=ys) (enc:=cB) (w:= .slice qma ys.length qmc) [0] [] [] (bC (b:=b3) (T:=3)) (fun s he _=>⟨qma,qmb,qmo,qmc,rfl,qmh,fun i p hp=>(qml i p hp).ext he⟩) (fun p _=>ai rfl) (by simp<;>omega) (fun v5 L5 HX=>?_)
 rw[List.nil_append] at HX
 obtain⟨va5,vc5,he5⟩:=HX.form
 subst he5
 refine zD 3<|zR ((.slice va5 (ys).length vc5)) [] [0] L5 ⟨_,HX,rfl⟩
theorem fI{ys:List ah}(hm:bD ro vm 5 cb ys)(hn:ys.length≤1000):eg zT 16 [vm] ro [] (fun r Y=>∃L,ay r 5 55 cb ys L∧Y=L):=by
 obtain⟨qma,qmb,qmo,qmc,rfl,qmk,qmh,qml⟩:=hm
 refine zE<|zD 6<|jn fun b3=>zD 1<|iC (sz:=5) (ps:=[]) (qs:=ys) (enc:=cb) (w:= .slice qma ys.length qmc) [0] [] [] (bC (b:=b3) (T:=55)) (fun s he _=>⟨qma,qmb,qmo,qmc,rfl,qmh,fun i p hp=>(qml i p hp).ext he⟩) (fun p _=>ai rfl) (by simp<;>omega) (fun v5 L5 HX=>?_)
 rw[List.nil_append] at HX
 obtain⟨va5,vc5,he5⟩:=HX.form
 subst he5
 refine zD 3<|zR ((.slice va5 (ys).length vc5)) [] [0] L5 ⟨_,HX,rfl⟩
theorem ary{vf:Value}{x:bZ}(hf:bD ro vf 3 nz fs)(hn:fs.length≤1000):dK zT 38 [.agg ⟨[s0,s1,s2,t0,t1,ru,vb,va,zI gone,zI new,zI af,vf]⟩,.agg ⟨[zI x.a,zI x.b,.bool x.same]⟩] ro (.bool (A8 fs x.a x.b)):=by
 obtain⟨jY,Ek,Ej,iP,rfl,LV,wA,wz⟩:=hf
 refine zE<|zD 2<|jn fun b2=>jn fun b3=>zD 8<|dV [1,0,1,0,0] [] (fun(zz:Nat)=>[(2,zP b2),(3,zP b3),(5,zI (zz:Int))]) (fun zz=>[.b b3 (.cells ⟨[zI x.a,zI x.b,.bool x.same]⟩ 58 (0,0)),.b b2 (.cells ⟨[s0,s1,s2,t0,t1,ru,vb,va,zI gone,zI new,zI af,.slice jY fs.length iP]⟩ 40 (0,0))]) (fun zz=>zz≤fs.length∧A8 fs x.a x.b=(fs.drop zz).any (fun y=>decide (y.a=x.a)&&decide (y.b=x.b))) (fun zz=>fs.length-zz) 0 ⟨by omega,rfl⟩ [0,1] ?_
 rintro k hI K1 bO rest
 refine jd 9 [1]<|zJ 10 ((k:Int) <(fs.length:Int)) (fun h1=>?_) fun h1=>?_
 ·
  refine jd 9 [1] ?_
  obtain⟨Cg,mU⟩:=zG fs k
  refine iz iP 3 wA mU<|zD 1<|jl 0 (wz _ _ mU)<|jd 4 [0]<|js 9 (decide (Cg.a=x.a)) (fun h2=>?_) (fun h2=>?_)
  ·
   have mI:=h2
   replace mI:=of_decide_eq_true mI
   refine jd 3 [1] ?_
   obtain⟨Ul,ab4⟩:=zG fs k
   refine iz iP 3 wA ab4<|zD 1<|jl 1 (wz _ _ ab4)<|jd 5 [0]<|zJ 32 (Ul.b=x.b) (fun h3=>?_) fun h3=>?_
   ·
    refine zD 6<|zX (.bool true) ⟨by rw[hI.2,Xv mU];simp_all,rfl⟩
   refine zD 4<|ja ((k:Int)+1) (by omega)<|zD 2<|bA bO (k+1) ⟨by omega,by rw[hI.2,Xv mU];simp_all⟩ (by omega) [0,1] (Sub.refl _)
  have mI:=h2
  replace mI:=of_decide_eq_false mI
  refine zD 15<|ja ((k:Int)+1) (by omega)<|zD 2<|bA bO (k+1) ⟨by omega,by rw[hI.2,Xv mU];simp_all⟩ (by omega) [0,1] (Sub.refl _)
 refine zD 7<|zX (.bool false) ⟨by rw[hI.2,aqe (by omega)],rfl⟩
theorem aIh{fa:Value}{kF yX:List ah}(hN:Dn ro vd xs)(hD:aU vd xs d X)(hb:bD ro vb 5 cb kF)(ha:bD ro va 5 cb yX)(hn:kF.length≤100∧yX.length≤100):eg zT 37 [zP d,.agg ⟨[s0,s1,s2,t0,t1,ru,vb,va,zI gone,zI new,zI af,fa]⟩] ro X (fun r Y=>∃x:bZ,r= .agg ⟨nz x⟩∧(0≤x.a∧(x.a <kF.length∨x.a=0))∧(0≤x.b∧(x.b <yX.length∨x.b=0))∧aU vd xs d Y):=by
 obtain⟨j7,Kb,J9,jZ,rfl,Ka,JF,JE⟩:=hb
 obtain⟨nv,N7,N2,nq,rfl,N3,LX,LW⟩:=ha
 refine zC [.l X]<|zD 2<|jn fun b3=>jn fun b4=>jd 7 [1]<|ja ((kF.length:Int)-1) (by omega)<|jd 4 [1]<|ja ((yX.length:Int)-1) (by omega)<|zD 1<|aQ 5 fun EV EZ AV=>jc (vs:=[zP d,zI ((kF.length:Int)-1)]) [2] (yD hN hD (by omega)) ?_
 rintro _ X10 ⟨w10,rfl,ahA,sL,WJ⟩
 refine fJ AV [[2],[2]]<|aQ 11 fun y4 ze wZ=>jc (vs:=[zP d,zI ((yX.length:Int)-1)]) [0] (yD hN WJ (by omega)) ?_
 rintro _ X16 ⟨w16,rfl,aFl,mU,ajl⟩
 refine fJ wZ [[2],[2]]<|aQ 13 fun qp qv oV=>jc (vs:=[zP d,zI 2]) [0] (m8 hN ajl (by omega)) ?_
 rintro _ XA ⟨w18,rfl,KB⟩
 refine fJ oV [[2],[2]]<|zD 1<|aQ 15 fun sq su qR=>jd 1 [1]<|fp qR<|zD 2<|zR (.agg ⟨[zI w10,zI w16,.bool w18]⟩) [1] [0] XA ⟨⟨_,_,_⟩,rfl,(by dsimp only;omega),(by dsimp only;omega),KB⟩
inductive dA{α β:Type}(R:α→β→Prop):List α→List β→Prop
 |nil:dA R [] []
 |cons {a:α} {b:β} {l:List α} {m:List β}:R a b→dA R l m→dA R (a::l) (b::m)
theorem dA.snoc{R:α→β→Prop}{l:List α}{m:List β}{a:α}{b:β}(h:dA R l m)(k:R a b):dA R (l++[a]) (m++[b]):=by
 induction h with
 |nil=>exact .cons k .nil
 |cons h1 _ ih=>exact .cons h1 ih
theorem dA.len{R:α→β→Prop}{l:List α}{m:List β}(h:dA R l m):l.length=m.length:=by
 induction h with
 |nil=>rfl
 |cons _ _ ih=>simp[ih]
theorem dA.get{R:α→β→Prop}{l:List α}{m:List β}(h:dA R l m){a:α}(ha:l[i]?=some a):∃b,m[i]?=some b∧R a b:=by
 induction h generalizing i with
 |nil=>simp at ha
 |cons h1 _ ih=>
  cases i with
  |zero=>simp at ha;subst ha;exact⟨_,rfl,h1⟩
  |succ i=>exact ih (by simpa using ha)
theorem dA.imp{R S:α→β→Prop}{l:List α}{m:List β}(h:dA R l m)(k:∀a b,R a b→S a b):dA S l m:=by
 induction h with
 |nil=>exact .nil
 |cons h1 _ ih=>exact .cons (k _ _ h1) ih
structure cd where
 word:ByteArray
 cls:Int
 oL:Int
 ee:List Int
variable {hd:List cd}
def dw(h:bB)(x:cd):Prop:=h.word=x.word∧h.cls=x.cls∧h.oL=x.oL
def sg(ro:Nat→Option Obj)(h:bB)(x:cd):Prop:=h.word=x.word∧h.cls=x.cls∧h.oL=x.oL∧bD ro h.ee 1 cB x.ee
def jA(ro:Nat→Option Obj)(vc vh:Value)(cs:List bP)(hv:List bB)(hd:List cd):Prop:=bD ro vc 2 pN cs∧bD ro vh 4 mw hv∧dA (sg ro) hv hd
def gN(nc nh:Nat)(i:Nat)(x:cd):Prop:=(-1≤x.cls∧x.cls <nc)∧(-1≤x.oL∧x.oL <nh∧x.oL≠i)∧(x.ee.length≤nh∧x.ee.Pairwise (· < ·)∧∀y∈x.ee,0≤y∧y <nh∧y≠i)∧(x.oL≠ -1→x.cls= -1∧x.ee=[])∧(x.oL= -1→x.cls= -1→x.ee≠[])
structure xI(cs:List bP)(hd:List cd):Prop where
 nc:0 <cs.length∧cs.length≤3
 nh:hd.length≤4
 cls:∀(i:Nat) (c:bP),cs[i]?=some c→c.name∈nN∧ -1≤c.under∧c.under <i
 names:(cs.map (·.name)).Pairwise fun a b=>cQ a b=false
 BI:∀(i:Nat) (x:cd),hd[i]?=some x→x.word∈pU∧gN cs.length hd.length i x
 words:(hd.map (·.word)).Pairwise fun a b=>cQ a b=false∧strLt b a=false
def oy(names:List Int)(cs:List bP):Prop:=∀(i:Nat) (c:bP),cs[i]?=some c→(∃y,names[i]?=some y∧nN[y.toNat]?=some c.name)∧ -1≤c.under∧c.under <i
theorem S3{l:List α}{x y:α}(h:(l++[x])[i]?=some y):l[i]?=some y∨(i=l.length∧y=x):=by
 rcases Nat.lt_trichotomy i l.length with h1|h1|h1
 ·rw[List.getElem?_append_left h1] at h;exact .inl h
 ·subst h1;simp at h;exact .inr ⟨rfl,h.symm⟩
 rw[List.getElem?_eq_none (by simp;omega)] at h;cases h
theorem oy.snoc{names:List Int}(h:oy names cs){y u:Int}(h1:names[cs.length]?=some y) (h2:nN[y.toNat]?=some nm) (h3: -1≤u∧u <cs.length):oy names (cs++[⟨nm,u⟩]):=fun i c hc=>by
 rcases S3 hc with h4| ⟨rfl,rfl⟩
 ·exact h i c h4
 exact⟨⟨y,h1,h2⟩,h3⟩
def nn(ws:List Int)(nc:Nat)(hv:List bB)(hd:List cd)(Z:Cells)(i:Nat):Prop:=
 (∀ro,Knows ro Z→dA (sg ro) hv hd)∧hd.length=i∧hv.length=i∧(∀(k:Nat) (x:cd),hd[k]?=some x→(∃w,ws[k]?=some w∧pU[w.toNat]?=some x.word)∧gN nc ws.length k x)∧dA dw hv hd
theorem nn.snoc{ws:List Int}{hv:List bB}{A:Cells}(h:nn ws nc hv hd Z i){hV:bB}{x:cd}{w:Int}(h0:dw hV x)(h1:∀ro,Knows ro A→sg ro hV x)(h2:ws[i]?=some w) (h3:pU[w.toNat]?=some x.word) (h4:gN nc ws.length i x):
 nn ws nc (hv++[hV]) (hd++[x]) (A++Z) (i+1):=by
 obtain⟨g1,g2,g3,g4,g5⟩:=h
 refine⟨fun ro hk=>(g1 ro hk.right).snoc (h1 ro hk.left),by simp[g2],by simp[g3],fun k y hy=>?_,g5.snoc h0⟩
 rcases S3 hy with h5| ⟨rfl,rfl⟩
 ·exact g4 k y h5
 rw[g2];exact⟨⟨w,h2,h3⟩,h4⟩
theorem anS{i w:Int}(hi:0≤i∧i <n)(hw:0≤w∧w≤n-2):0≤Int.tmod (i+1+w) n∧Int.tmod (i+1+w) n <n∧Int.tmod (i+1+w) n≠i:=by
 have h1:=Int.tmod_nonneg n (show 0≤i+1+w by omega)
 have h2:=Int.tmod_lt_of_pos (i+1+w) (show 0 <n by omega)
 refine⟨h1,h2,fun h=>?_⟩
 have h3:=Int.tmod_add_mul_tdiv (i+1+w) n
 rw[h] at h3
 have h4:n*(i+1+w).tdiv n=1+w:=by omega
 rcases Int.lt_trichotomy ((i+1+w).tdiv n) 0 with h5|h5|h5
 ·have:n*(i+1+w).tdiv n≤n* -1:=Int.mul_le_mul_of_nonneg_left (by omega) (by omega)
  omega
 ·rw[h5] at h4;omega
 have:n*1≤n*(i+1+w).tdiv n:=Int.mul_le_mul_of_nonneg_left (by omega) (by omega)
 omega
theorem Eg:nN.Pairwise fun a b=>cQ a b=false:=by simp only[Ba];decide
theorem Xk:pU.Pairwise fun a b=>cQ a b=false∧strLt b a=false:=by simp only[Ba,QP];decide
def lN(i:Nat)(k:Nat)(al:List Int):Prop:=al.length≤k∧al.Pairwise (· < ·)∧∀y∈al,0≤y∧y <k∧y≠i
theorem qB{l:List α}{R:α→α→Prop}(h:l.Pairwise R){j:Nat}{a b:α}(JM:i <j)(ha:l[i]?=some a) (hb:l[j]?=some b):R a b:=by
 obtain⟨h1,rfl⟩:=List.getElem?_eq_some_iff.1 ha
 obtain⟨h2,rfl⟩:=List.getElem?_eq_some_iff.1 hb
 exact List.pairwise_iff_getElem.1 h i j h1 h2 JM
theorem afz{l:List α}{f:α→β}{R:β→β→Prop}(h:∀(i j:Nat) (a b:α),i <j→l[i]?=some a→l[j]?=some b→R (f a) (f b)):(l.map f).Pairwise R:=by
 rw[List.pairwise_map,List.pairwise_iff_getElem]
 exact fun i j hi hj JM=>h i j _ _ JM (List.getElem?_eq_getElem hi) (List.getElem?_eq_getElem hj)
theorem UE{a b:ByteArray}(h:cQ a b=false):cQ b a=false:=by
 cases h2:cQ b a with
 |false=>rfl
 |true=>rw[qi.1 h2,qi.2 rfl] at h;cases h
theorem aaW{Oc kL:List Int}{hv:List bB}(hc:oy Oc cs)(hp:Oc.Perm (cG nN.length))(hn:0 <cs.length∧cs.length≤3)(hh:nn kL cs.length hv hd Z i)(hi:i=kL.length)(h4:kL.length≤4)(hs:kL.Pairwise (· < ·))(hm:∀x∈kL,0≤x∧x <pU.length):xI cs hd:=by
 obtain⟨g1,g2,g3,g4,_⟩:=hh
 have jm:∀y∈Oc,0≤y∧y <nN.length:=fun y hy=>nQ (hp.mem_iff.1 hy)
 have mo:Oc.Pairwise (· ≠·):=(hp.pairwise_iff (fun h=>Ne.symm h)).2 ((sA _).imp fun h=>by omega)
 refine⟨hn,by omega,fun k c hk=>?_,afz fun a b x y xZ hx hy=>?_,fun k x hk=>?_,afz fun a b x y xZ hx hy=>?_⟩
 ·obtain⟨⟨y,h1,h2⟩,h3⟩:=hc k c hk
  exact⟨zL h2,h3⟩
 ·obtain⟨⟨p,p1,p2⟩,_⟩:=hc a x hx
  obtain⟨⟨q,q1,q2⟩,_⟩:=hc b y hy
  have ZC:=qB mo xZ p1 q1
  have hp0:=jm p (zL p1)
  have ZB:=jm q (zL q1)
  rcases Nat.lt_trichotomy p.toNat q.toNat with h|h|h
  ·exact qB Eg h p2 q2
  ·exact absurd (show p=q by omega) ZC
  exact UE (qB Eg h q2 p2)
 ·obtain⟨⟨w,h1,h2⟩,h3⟩:=g4 k x hk
  have:hd.length=kL.length:=by omega
  rw[this]
  exact⟨zL h2,h3⟩
 obtain⟨⟨p,p1,p2⟩,_⟩:=g4 a x hx
 obtain⟨⟨q,q1,q2⟩,_⟩:=g4 b y hy
 have ZC:=qB hs xZ p1 q1
 have hp0:=hm p (zL p1)
 exact qB Xk (show p.toNat <q.toNat by omega) p2 q2
theorem lN.step(h:lN i k al):lN i (k+1) al:=⟨by have:=h.1;omega,h.2.1,fun y hy=>by have:=h.2.2 y hy;omega⟩
theorem lN.snoc(h:lN i k al)(hk:(k:Int)≠i):lN i (k+1) (al++[(k:Int)]):=by
 refine⟨by have:=h.1;simp;omega,List.pairwise_append.2 ⟨h.2.1,List.pairwise_singleton _ _,fun a ha b hb=>?_⟩,lE (fun y hy=>by have:=h.2.2 y hy;omega) (by omega)⟩
 rw[List.mem_singleton] at hb;subst hb
 exact(h.2.2 a ha).2.1
theorem aiu{w:ByteArray}(h:0≤r∧r <nh∧r≠i)(h4:0 <nc):gN nc nh i ⟨w,-1,r,[]⟩:=
 have h1:=h.1
 have h2:=h.2.1
 have h3:=h.2.2
 ⟨⟨by simp,by simp<;>omega⟩,⟨by simp<;>omega,by simpa using h2,by simpa using h3⟩,⟨by simp,by simp,by simp⟩,fun _=>⟨rfl,rfl⟩,fun h=>by simp at h;omega⟩
theorem ML{c:Int}{w:ByteArray}(hc:0≤c∧c <nc)(h:lN i k al)(hk:k≤nh)(hi:i <nh):gN nc nh i ⟨w,c,-1,al⟩:=
 ⟨⟨by simp<;>omega,by simpa using hc.2⟩,⟨by simp,by simp<;>omega,by simp<;>omega⟩,⟨by have:=h.1;simp<;>omega,h.2.1,fun y hy=>by have:=h.2.2 y hy;simp<;>omega⟩,fun hh=>by simp at hh,fun _ hh=>by simp at hh;omega⟩
theorem aiv{w:ByteArray}(h:lN i k al)(hk:k≤nh)(hi:i <nh)(dR:(al.length:Int)>0):gN nc nh i ⟨w,-1,-1,al⟩:=
 ⟨⟨by simp,by simp<;>omega⟩,⟨by simp,by simp<;>omega,by simp<;>omega⟩,⟨by have:=h.1;simp<;>omega,h.2.1,fun y hy=>by have:=h.2.2 y hy;simp<;>omega⟩,fun hh=>by simp at hh,fun _ _ hh=>by simp at hh;subst hh;simp at dR⟩
set_option maxHeartbeats 1000000 in
theorem aai (hN:Dn ro vd xs) (hD:aU vd xs d X):eg zT 28 [zP d,zI 3,zI 4] ro X (fun r Y=>∃(cs:List bP) (hv:List bB) (hd:List cd) (vc vh:Value) (Z X':Cells),r= .agg ⟨[vc,vh]⟩∧xI cs hd∧dA dw hv hd∧(∀aJ,Knows aJ Z→jA aJ vc vh cs hv hd)∧Y=Z++X'∧aU vd xs d X'):=by
 refine zC [.l X]<|zD 2<|jn fun b6=>zD 3<|jn fun b7=>zD 4<|jc [] (agX) ?_
 rintro v16 L16 ⟨_,aQg,rfl⟩
 refine yJ aQg<|jc (vs:=[zP d,zI (nN.length:Int)]) [3] (akE hN hD (by first|omega|decide)) ?_
 rintro v18 _ ⟨Oc,L18,XA,Sv,Ss,rfl,KB⟩
 refine jg 0 [.l L18,.l XA]<|zD 7<|jc (vs:=[zP d,zI 1,zI 3]) [1] (vk hN KB (by omega) (by omega)) ?_
 rintro _ X21 ⟨w21,rfl,aoH,qI,aSL⟩
 refine zD 3<|nY<|dV [1,1,1,0,1,0,0] [] (fun(zz:Int×Value×Cells×(List bP)×Cells)=>[(0,zP d),(2,zI 4),(6,zP b6),(7,zP b7),(8,v18),(9,zI zz.1)]) (fun zz=>[.l zz.2.2.1,.l zz.2.2.2.2,.b b7 (.cells ⟨[zz.2.1,zS]⟩ 35 (0,0)),.l L18,.b b6 (.cells ⟨[zS,zS]⟩ 35 (0,0))]) (fun zz=>(0≤zz.1∧zz.2.2.2.1.length+zz.1=w21)∧ay zz.2.1 2 142 pN zz.2.2.2.1 zz.2.2.1∧oy Oc zz.2.2.2.1∧aU vd xs d zz.2.2.2.2) (fun zz=>zz.1.toNat) (⟨w21,zS,[],[],X21⟩) ⟨by simp only[List.length_nil];omega,ay.nil _ _ _,(fun i c h=>by simp at h),aSL⟩ [0,1,4,2,5] ?_
 rintro⟨j,vC,LC,cs,X⟩ hI K1 bO rest
 dsimp only at hI
 have hlen:Oc.length=9:=by rw[Ss.length_eq,gV];rfl
 refine zD 6<|zJ 23 (j>0) (fun h1=>?_) fun h1=>?_
 ·
  refine jd 10 [2,2]<|yJ hI.2.1 ?_
  obtain⟨x33,aho⟩:=zG Oc (cs.length)
  refine HC 1 Sv aho fun b33 aRV=>mT 0 [3] L18 (fun s _ hZ=>bR Sv aRV hZ aho)<|jd 3 [2]<|yJ hI.2.1<|ja ((cs.length:Int)-1) (by omega)<|aQ 2 fun y4 ze wZ=>jc [] (agX) ?_
  rintro v28 L28 ⟨_,aF2,rfl⟩
  refine eo wZ (zN 1 5) ?_
  obtain⟨x35,VG⟩:=zG nN (x33.toNat) (by have:=nQ (Ss.mem_iff.1 (zL aho));omega)
  refine pZ x33 1 aF2 VG (Int.toNat_of_nonneg (show 0≤x33∧x33 <((nN).length:Int) from (nQ (Ss.mem_iff.1 (zL aho)))).1).symm fun b35 aRT=>mT 0 [0] L28 (fun s _ hZ=>bR aF2 aRT hZ VG)<|aQ 16 fun qp qv oV=>jc (vs:=[zP d,zI (-1),zI ((cs.length:Int)-1)]) [2] (vk hN hI.2.2.2 (by omega) (by omega)) ?_
  rintro _ X42 ⟨w42,rfl,baA,HL,aSG⟩
  refine fJ oV [[1],[3],[4],[3],[3]]<|zD 1<|aQ 18 fun sq su qR=>jn fun Cq=>eo qR (zN 1 6)<|aQ 19 fun AZ A9 BK=>iC (sz:=2) (ps:=cs) (qs:=[(⟨x35,w42⟩:bP)]) (enc:=pN) (w:= .slice (some ⟨Cq,0,none⟩) 1 1) [3] [0] [(Cq,.cells ⟨([(⟨x35,w42⟩:bP)].map pN).flatten⟩ 142 (0,0))] (hI.2.1) (fun s _ hZ=>bL [(⟨x35,w42⟩:bP)] (hZ _ (.head _)) (by intro p hp;rfl)) (fun p _=>ai rfl) (by simp<;>omega) (fun v45 L45 ahS=>?_)
  obtain⟨atA,atl,axH⟩:=ahS.form
  subst axH
  refine fJ BK [[3],[4],[5],[4]]<|zD 1<|aQ 21 fun aaM aaY Wm=>jd 1 [4]<|fp Wm<|zD 3<|ja (j-1) (by omega)<|zD 2<|bA bO (⟨j-1,(.slice atA ((cs++[(⟨x35,w42⟩:bP)])).length atl),L45,(cs++[(⟨x35,w42⟩:bP)]),X42⟩) ⟨by simp only[zM];omega,ahS,oy.snoc hI.2.2.1 aho VG (by omega),aSG⟩ (by omega) [0,2,4,5,6] (Sub.refl _)
 refine zD 5<|jc [] (ahd) ?_
 rintro v48 L48 ⟨_,aP6,rfl⟩
 refine yJ aP6<|zD 2<|jc (vs:=[zP d,zI 4]) [2] (yD hN hI.2.2.2 (by omega)) ?_
 rintro _ X52 ⟨w52,rfl,baz,wO,aSF⟩
 refine jc (vs:=[zP d,zI (pU.length:Int),zI w52]) [0] (aIi hN aSF (by first|omega|decide)) ?_
 rintro v53 _ ⟨kL,L53,X53,awN,bbq,mD,aic,rfl,apr⟩
 refine jg 0 [.l L53,.l X53]<|zD 5<|yJ awN<|zD 8<|nY<|nY<|dV [1,1,1,1,1,1,0,1,0,0] [] (fun(zz:Nat×Value×Cells×(List bB)×(List cd)×Cells×Cells)=>[(0,zP d),(6,zP b6),(7,zP b7),(10,v53),(11,zI (kL.length:Int)),(12,zI (zz.1:Int))]) (fun zz=>[.l zz.2.2.1,.l zz.2.2.2.2.2.1,.l zz.2.2.2.2.2.2,.l LC,.b b7 (.cells ⟨[vC,zz.2.1]⟩ 35 (0,0)),.l L53,.b b6 (.cells ⟨[zS,zS]⟩ 35 (0,0))]) (fun zz=>zz.1≤kL.length∧ay zz.2.1 4 145 mw zz.2.2.2.1 zz.2.2.1∧nn kL cs.length zz.2.2.2.1 zz.2.2.2.2.1 zz.2.2.2.2.2.1 zz.1∧aU vd xs d zz.2.2.2.2.2.2) (fun zz=>kL.length-zz.1) (⟨0,zS,[],[],[],[],X53⟩) ⟨by omega,ay.nil _ _ _,⟨fun _ _=> .nil,rfl,rfl,(fun k x h=>by simp at h),.nil⟩,apr⟩ [1,0,3,5,6,2,8] ?_
 rintro⟨i,vH,LH,hv,hd,Z,X⟩ hJ K7 Qh rest
 dsimp only at hJ
 have hll:=hJ.2.2.1.2.2.1
 have Qb:kL.length≤4:=by omega
 have iR:cs.length≤3:=by omega
 refine zD 7<|zJ 58 ((i:Int) <(kL.length:Int)) (fun h7=>?_) fun h7=>?_
 ·
  refine zD 5<|yK [1,1,1,1,1,1,0,1,0,0,1,0,0,1] [K7] (fun(zz:Nat×Int×Int×ByteArray×Cells)=>[(0,zP d),(6,zP b6),(7,zP b7),(10,v53),(11,zI (kL.length:Int)),(12,zI (i:Int)),(13,zP zz.1)]) (fun zz=>[.b zz.1 (.cells ⟨[.string zz.2.2.2.1,zI zz.2.1,zI (-1),zS]⟩ 145 (0,0)),.l LH,.l Z,.l zz.2.2.2.2,.l LC,.b b7 (.cells ⟨[vC,vH]⟩ 35 (0,0)),.l L53,.b b6 (.cells ⟨[zS,zS]⟩ 35 (0,0))]) (fun zz=>kL[i]?=some zz.2.2.1∧pU[zz.2.2.1.toNat]?=some zz.2.2.2.1∧(0≤zz.2.1∧zz.2.1 <cs.length)∧aU vd xs d zz.2.2.2.2) ?_ (fun K8 Ue=>?_)
  ·
   rintro⟨AX,w,y,x,X⟩ KA rest
   dsimp only at KA
   refine zD 2<|yK [1,1,1,1,1,1,0,1,0,0,1,0,0,1,0,1] [K7] (fun(zz:Bool×Cells)=>[(0,zP d),(6,zP b6),(7,zP b7),(10,v53),(11,zI (kL.length:Int)),(12,zI (i:Int)),(13,zP AX),(80,.bool zz.1)]) (fun zz=>[.b AX (.cells ⟨[.string x,zI w,zI (-1),zS]⟩ 145 (0,0)),.l LH,.l Z,.l zz.2,.l LC,.b b7 (.cells ⟨[vC,vH]⟩ 35 (0,0)),.l L53,.b b6 (.cells ⟨[zS,zS]⟩ 35 (0,0))]) (fun zz=>(zz.1=true→1 <kL.length)∧aU vd xs d zz.2) ?_ (fun K9 hK9=>?_)
   ·
    rintro⟨q,X⟩ hJ3 rest
    dsimp only at hJ3
    refine js 80 q (fun h8=>?_) (fun h8=>?_)
    ·
     subst h8
     have hgt:=hJ3.1 rfl
     refine zD 4<|ja ((i:Int)+1) (by omega)<|zD 2<|ja ((kL.length:Int)-2) (by omega)<|zD 2<|aQ 5 fun DW Ef uO=>jc (vs:=[zP d,zI ((kL.length:Int)-2)]) [3] (yD hN hJ3.2 (by omega)) ?_
     rintro _ X86 ⟨w86,rfl,bax,bat,aSB⟩
     refine fJ uO []<|ja (((i:Int)+1)+w86) (by omega)<|jrm (k:= .i64) (a:=(((i:Int)+1)+w86)) (b:=(kL.length:Int)) 3 (by omega)<|aQ 10 fun DV Ee xa=>jd 1 [1]<|fJ xa []<|zD 1<|aQ 12 fun Gc GA w9=>jd 1 [1]<|fp w9<|jd 6 [5,1]<|jn fun b95=>iC (sz:=4) (ps:=hv) (qs:=[(⟨x,(-1),(Int.tmod (((i:Int)+1)+w86) (kL.length:Int)),zS⟩:bB)]) (enc:=mw) (w:= .slice (some ⟨b95,0,none⟩) 1 1) [3] [0] [(b95,.cells ⟨([(⟨x,(-1),(Int.tmod (((i:Int)+1)+w86) (kL.length:Int)),zS⟩:bB)].map mw).flatten⟩ 145 (0,0))] (hJ.2.1) (fun s _ hZ=>bL [(⟨x,(-1),(Int.tmod (((i:Int)+1)+w86) (kL.length:Int)),zS⟩:bB)] (hZ _ (.head _)) (by intro p hp;rfl)) (by intro p hp;rw[List.mem_singleton] at hp;subst hp;exact ai rfl) (by simp<;>omega) (fun v96 L96 ahO=>?_)
     obtain⟨aLR,aLy,aQ5⟩:=ahO.form
     subst aQ5
     refine jd 6 [6]<|ja ((i:Int)+1) (by omega)<|zD 2<|bA Qh (⟨i+1,(.slice aLR ((hv++[(⟨x,(-1),(Int.tmod (((i:Int)+1)+w86) (kL.length:Int)),zS⟩:bB)])).length aLy),L96,(hv++[(⟨x,(-1),(Int.tmod (((i:Int)+1)+w86) (kL.length:Int)),zS⟩:bB)]),_,Z,X86⟩) ⟨by omega,ahO,(by have:=nn.snoc (A:=[]) hJ.2.2.1 (h0:=⟨rfl,rfl,rfl⟩) (hV:=⟨x,-1,(Int.tmod (((i:Int)+1)+w86) (kL.length:Int)),zS⟩) (x:=⟨x,-1,(Int.tmod (((i:Int)+1)+w86) (kL.length:Int)),[]⟩) (fun ro _=>⟨rfl,rfl,rfl,bD.nil _ _ _ _ _⟩) KA.1 KA.2.1 (aiu (anS ⟨by omega,by omega⟩ ⟨by omega,by omega⟩) (by omega));simpa only[List.nil_append] using this),aSB⟩ (by omega) [0,4,2,5,6,7,8] (Sub.refl _)
    subst h8
    refine zD 8<|nY<|dV [1,1,1,1,1,1,0,1,0,0,1,0,0,1,1,0,1,0,0] [K7] (fun(zz:Nat×Value×Cells×(List Int)×Cells)=>[(0,zP d),(6,zP b6),(7,zP b7),(10,v53),(11,zI (kL.length:Int)),(12,zI (i:Int)),(13,zP AX),(14,zI (zz.1:Int))]) (fun zz=>[.l zz.2.2.1,.l zz.2.2.2.2,.b AX (.cells ⟨[.string x,zI w,zI (-1),zz.2.1]⟩ 145 (0,0)),.l LH,.l Z,.l LC,.b b7 (.cells ⟨[vC,vH]⟩ 35 (0,0)),.l L53,.b b6 (.cells ⟨[zS,zS]⟩ 35 (0,0))]) (fun zz=>(zz.1≤kL.length∧zz.2.2.2.1.length≤zz.1)∧ay zz.2.1 1 3 cB zz.2.2.2.1 zz.2.2.1∧lN i zz.1 zz.2.2.2.1∧aU vd xs d zz.2.2.2.2) (fun zz=>kL.length-zz.1) (⟨0,zS,[],[],X⟩) ⟨by simp,ay.nil _ _ _,⟨by simp,by simp,by simp⟩,hJ3.2⟩ [0,4,1,2,3,5,6,7,8] ?_
    rintro⟨k,vA,LA,al,X⟩ hK K13 O5 rest
    dsimp only at hK
    obtain⟨qa,qc,rfl⟩:=hK.2.1.form
    refine zD 7<|zJ 100 ((k:Int) <(kL.length:Int)) (fun JU=>?_) fun JU=>?_
    ·
     refine zD 10<|js 106 (!decide ((k:Int)=(i:Int))) (fun Cn=>?_) (fun Cn=>?_)
     ·
      have ajK:=Cn
      replace ajK:=of_decide_eq_false (by simpa using ajK)
      refine zD 1<|jc (vs:=[zP d,zI 4]) [1] (m8 hN hK.2.2.2 (by omega)) ?_
      rintro _ aI5 ⟨aLw,rfl,asf⟩
      refine zD 2<|js 109 aLw (fun h14=>?_) (fun h14=>?_)
      ·
       subst h14
       refine jd 5 [2]<|jn fun aIL=>iC (sz:=1) (ps:=al) (qs:=[(k:Int)]) (enc:=cB) (w:= .slice (some ⟨aIL,0,none⟩) 1 1) [2] [0] [(aIL,.cells ⟨([(k:Int)].map cB).flatten⟩ 3 (0,0))] (hK.2.1) (fun s _ hZ=>bL [(k:Int)] (hZ _ (.head _)) (by intro p hp;rfl)) (fun p _=>ai rfl) (by simp<;>omega) (fun aYj aUx ZD=>?_)
       obtain⟨aBT,aBQ,aGU⟩:=ZD.form
       subst aGU
       refine jd 5 [3]<|ja ((k:Int)+1) (by omega)<|zD 2<|bA O5 (⟨k+1,(.slice aBT ((al++[(k:Int)])).length aBQ),aUx,(al++[(k:Int)]),aI5⟩) ⟨by simp only[zM];omega,ZD,lN.snoc hK.2.2.1 (by omega),asf⟩ (by omega) [0,2,3,4,5,6,7,8,9] (Sub.refl _)
      subst h14
      refine zD 4<|ja ((k:Int)+1) (by omega)<|zD 2<|bA O5 (⟨k+1,(.slice qa al.length qc),LA,al,aI5⟩) ⟨by dsimp only;omega,hK.2.1,lN.step hK.2.2.1,asf⟩ (by omega) [1,0,2,3,4,5,6,7,8] (Sub.refl _)
     have ajK:=Cn
     replace ajK:=of_decide_eq_true (by simpa using ajK)
     refine zD 8<|ja ((k:Int)+1) (by omega)<|zD 2<|bA O5 (⟨k+1,(.slice qa al.length qc),LA,al,X⟩) ⟨by dsimp only;omega,hK.2.1,lN.step hK.2.2.1,hK.2.2.2⟩ (by omega) (zN 0 9) (Sub.refl _)
    refine jd 10 [2]<|js 120 (decide ((al.length:Int)>0)) (fun Ft=>?_) (fun Ft=>?_)
    ·
     have Iy:=Ft
     replace Iy:=of_decide_eq_true Iy
     refine zD 1<|jc (vs:=[zP d,zI 4]) [1] (m8 hN hK.2.2.2 (by omega)) ?_
     rintro _ aI4 ⟨aLv,rfl,ase⟩
     refine zD 2<|js 123 aLv (fun WN=>?_) (fun WN=>?_)
     ·
      subst WN
      refine jd 9 [2,6,2]<|jn fun PM=>iC (sz:=4) (ps:=hv) (qs:=[(⟨x,(-1),-1,(.slice qa al.length qc)⟩:bB)]) (enc:=mw) (w:= .slice (some ⟨PM,0,none⟩) 1 1) [4] [0] [(PM,.cells ⟨([(⟨x,(-1),-1,(.slice qa al.length qc)⟩:bB)].map mw).flatten⟩ 145 (0,0))] (hJ.2.1) (fun s _ hZ=>bL [(⟨x,(-1),-1,(.slice qa al.length qc)⟩:bB)] (hZ _ (.head _)) (by intro p hp;rfl)) (by intro p hp;rw[List.mem_singleton] at hp;subst hp;exact ai rfl) (by simp<;>omega) (fun aB2 aly rQ=>?_)
      obtain⟨Qw,Qv,SK⟩:=rQ.form
      subst SK
      refine jd 5 [7]<|ja ((i:Int)+1) (by omega)<|zD 2<|Ki Qh (⟨i+1,(.slice Qw ((hv++[(⟨x,(-1),-1,(.slice qa al.length qc)⟩:bB)])).length Qv),aly,(hv++[(⟨x,(-1),-1,(.slice qa al.length qc)⟩:bB)]),_,LA++Z,aI4⟩) ⟨by omega,rQ,nn.snoc (A:=LA) hJ.2.2.1 (h0:=⟨rfl,rfl,rfl⟩) (x:=⟨x,_,-1,al⟩) (fun ro hk=>⟨rfl,rfl,rfl,hK.2.1.jL hk⟩) KA.1 KA.2.1 (aiv hK.2.2.1 (by omega) (by omega) (by assumption)),ase⟩ (by omega) [[0],[3,5],[2],[6],[7],[8],[9]] (Sub.refl _)
     subst WN
     refine jd 6 [6,2]<|jn fun PM=>iC (sz:=4) (ps:=hv) (qs:=[(⟨x,w,-1,(.slice qa al.length qc)⟩:bB)]) (enc:=mw) (w:= .slice (some ⟨PM,0,none⟩) 1 1) [4] [0] [(PM,.cells ⟨([(⟨x,w,-1,(.slice qa al.length qc)⟩:bB)].map mw).flatten⟩ 145 (0,0))] (hJ.2.1) (fun s _ hZ=>bL [(⟨x,w,-1,(.slice qa al.length qc)⟩:bB)] (hZ _ (.head _)) (by intro p hp;rfl)) (by intro p hp;rw[List.mem_singleton] at hp;subst hp;exact ai rfl) (by simp<;>omega) (fun aB2 aly rQ=>?_)
     obtain⟨Qw,Qv,SK⟩:=rQ.form
     subst SK
     refine jd 5 [7]<|ja ((i:Int)+1) (by omega)<|zD 2<|Ki Qh (⟨i+1,(.slice Qw ((hv++[(⟨x,w,-1,(.slice qa al.length qc)⟩:bB)])).length Qv),aly,(hv++[(⟨x,w,-1,(.slice qa al.length qc)⟩:bB)]),_,LA++Z,aI4⟩) ⟨by omega,rQ,nn.snoc (A:=LA) hJ.2.2.1 (h0:=⟨rfl,rfl,rfl⟩) (x:=⟨x,_,-1,al⟩) (fun ro hk=>⟨rfl,rfl,rfl,hK.2.1.jL hk⟩) KA.1 KA.2.1 (ML (by omega) hK.2.2.1 (by omega) (by omega)),ase⟩ (by omega) [[0],[3,5],[2],[6],[7],[8],[9]] (Sub.refl _)
    have Iy:=Ft
    replace Iy:=of_decide_eq_false Iy
    refine jd 10 [6,2]<|jn fun PM=>iC (sz:=4) (ps:=hv) (qs:=[(⟨x,w,-1,(.slice qa al.length qc)⟩:bB)]) (enc:=mw) (w:= .slice (some ⟨PM,0,none⟩) 1 1) [4] [0] [(PM,.cells ⟨([(⟨x,w,-1,(.slice qa al.length qc)⟩:bB)].map mw).flatten⟩ 145 (0,0))] (hJ.2.1) (fun s _ hZ=>bL [(⟨x,w,-1,(.slice qa al.length qc)⟩:bB)] (hZ _ (.head _)) (by intro p hp;rfl)) (by intro p hp;rw[List.mem_singleton] at hp;subst hp;exact ai rfl) (by simp<;>omega) (fun aB2 aly rQ=>?_)
    obtain⟨Qw,Qv,SK⟩:=rQ.form
    subst SK
    refine jd 5 [7]<|ja ((i:Int)+1) (by omega)<|zD 2<|Ki Qh (⟨i+1,(.slice Qw ((hv++[(⟨x,w,-1,(.slice qa al.length qc)⟩:bB)])).length Qv),aly,(hv++[(⟨x,w,-1,(.slice qa al.length qc)⟩:bB)]),_,LA++Z,X⟩) ⟨by omega,rQ,nn.snoc (A:=LA) hJ.2.2.1 (h0:=⟨rfl,rfl,rfl⟩) (x:=⟨x,_,-1,al⟩) (fun ro hk=>⟨rfl,rfl,rfl,hK.2.1.jL hk⟩) KA.1 KA.2.1 (ML (by omega) hK.2.2.1 (by omega) (by omega)),hK.2.2.2⟩ (by omega) [[0],[2,5],[3],[6],[7],[8],[9]] (Sub.refl _)
   refine zD 4<|js 77 (decide ((kL.length:Int)>1)) (fun h17=>?_) (fun h17=>?_)
   ·
    have Ix:=h17
    replace Ix:=of_decide_eq_true Ix
    refine zD 1<|jc (vs:=[zP d,zI 3]) [3] (m8 hN KA.2.2.2 (by omega)) ?_
    rintro _ X79 ⟨w79,rfl,aSD⟩
    refine zD 2<|bA hK9 ⟨w79,X79⟩ ⟨fun _=>by omega,aSD⟩ Nat.zero_lt_one [1,2,3,0,4,5,6,7] (Sub.refl _)
   have Ix:=h17
   replace Ix:=of_decide_eq_false Ix
   refine zD 4<|bA hK9 ⟨false,X⟩ ⟨(fun h=>by cases h),KA.2.2.2⟩ Nat.zero_lt_one (zN 0 8) (Sub.refl _)
  refine zD 3 ?_
  obtain⟨x64,OJ⟩:=zG kL i
  refine HC 1 awN OJ fun b64 aRL=>mT 0 [5] L53 (fun s _ hZ=>bR awN aRL hZ OJ)<|jd 3 [4]<|yJ hI.2.1<|ja ((cs.length:Int)-1) (by omega)<|Ez [0,14] ⟨fun z14 t15 Ky=>?_,fun z17 t18 WB=>?_,trivial⟩
  ·
   refine jc [] (ahd) ?_
   rintro v61 L61 ⟨_,ah5,rfl⟩
   refine eo Ky (zN 1 7) ?_
   obtain⟨x66,HI⟩:=zG pU (x64.toNat) (by have:=aic _ (zL OJ);omega)
   refine pZ x64 1 ah5 HI (Int.toNat_of_nonneg (show 0≤x64∧x64 <((pU).length:Int) from (aic _ (zL OJ))).1).symm fun b66 ax8=>mT 0 [0] L61 (fun s _ hZ=>bR ah5 ax8 hZ HI)<|Ez [12,14] ⟨fun z20 t21 ai2=>?_,fun z23 t24 O2=>?_,trivial⟩
   ·
    refine jc (vs:=[zP d,zI ((cs.length:Int)-1)]) [3] (yD hN hJ.2.2.2 (by omega)) ?_
    rintro _ X73 ⟨w73,rfl,aFe,ab2,ai8⟩
    refine fJ ai2 [[1],[5],[6]]<|zD 1<|aQ 14 fun XU Yc BL=>jn fun AX=>eo BL (zN 1 8)<|aQ 15 fun KT La Dq=>jd 1 [0]<|fp Dq<|zD 1<|bA Ue ⟨AX,w73,_,x66,X73⟩ ⟨OJ,HI,(by dsimp only;omega),ai8⟩ Nat.zero_lt_one [0,3,4,1,5,6,7,8] (Sub.refl _)
   refine jn fun AX=>eo O2 (zN 1 8)<|aQ 12 fun KS K0 Dp=>jc (vs:=[zP d,zI ((cs.length:Int)-1)]) [4] (yD hN hJ.2.2.2 (by omega)) ?_
   rintro _ X73 ⟨w73,rfl,aFe,ab2,ai8⟩
   refine fJ Dp [[2],[6],[7]]<|zD 1<|aQ 15 fun KR KZ Dm=>jd 1 [1]<|fp Dm<|zD 1<|bA Ue ⟨AX,w73,_,x66,X73⟩ ⟨OJ,HI,(by dsimp only;omega),ai8⟩ Nat.zero_lt_one [1,3,4,0,5,6,7,8] (Sub.refl _)
  refine jn fun AX=>eo WB (zN 1 7)<|aQ 0 fun XT Yb O1=>jc [] (ahd) ?_
  rintro v61 L61 ⟨_,ah5,rfl⟩
  refine eo O1 (zN 1 8) ?_
  obtain⟨x66,HI⟩:=zG pU (x64.toNat) (by have:=aic _ (zL OJ);omega)
  refine pZ x64 1 ah5 HI (Int.toNat_of_nonneg (show 0≤x64∧x64 <((pU).length:Int) from (aic _ (zL OJ))).1).symm fun b66 ax8=>mT 0 [0] L61 (fun s _ hZ=>bR ah5 ax8 hZ HI)<|aQ 12 fun XS Ya Kx=>jc (vs:=[zP d,zI ((cs.length:Int)-1)]) [4] (yD hN hJ.2.2.2 (by omega)) ?_
  rintro _ X73 ⟨w73,rfl,aFe,ab2,ai8⟩
  refine fJ Kx [[1],[6],[7]]<|zD 1<|aQ 15 fun aqv aqO Wy=>jd 1 [2]<|fp Wy<|zD 1<|bA Ue ⟨AX,w73,_,x66,X73⟩ ⟨OJ,HI,(by dsimp only;omega),ai8⟩ Nat.zero_lt_one [2,3,4,0,5,6,7,8] (Sub.refl _)
 refine jd 5 [4] ?_
 obtain⟨aej,ad9,aix⟩:=hI.2.1.form
 subst aix
 obtain⟨aL2,aLJ,aRd⟩:=hJ.2.1.form
 subst aRd
 refine jd 3 [6]<|zR (.agg ⟨[(.slice aej (cs).length ad9),(.slice aL2 (hv).length aLJ)]⟩) [6] [3,0,1,2] (LC++(LH++(Z++X))) ⟨cs,hv,hd,_,_,LC++(LH++Z),X,rfl,aaW hI.2.2.1 Ss (by omega) hJ.2.2.1 (by omega) (by omega) mD aic,hJ.2.2.1.2.2.2.2,fun aH hk=>⟨hI.2.1.jL hk.left,hJ.2.1.jL hk.right.left,hJ.2.2.1.1 aH hk.right.right⟩,by simp only[List.append_assoc],hJ.2.2.2⟩
abbrev gz(x:Value):List Value:=[x]
structure aj where
 n:Int
 l:Int
abbrev cM(x:aj):List Value:=[zI x.n,zI x.l]
def ant(x y:aj):Prop:=x.n <y.n∨(x.n=y.n∧x.l <y.l)
def Cd(x:aj):Prop:=(1≤x.n∧x.n≤9)∧0≤x.l∧x.l≤4
structure eS(S:List (List aj)):Prop where
 two:S.length=2
 len:∀l∈S,l.length≤4
 ok:∀l∈S,∀x∈l,Cd x
 asc:∀l∈S,l.Pairwise ant
def wC:List (List aj):=[[⟨1,0⟩,⟨2,0⟩],[⟨1,0⟩,⟨3,0⟩]]
def da(ro:Nat→Option Obj)(v:Value)(S:List (List aj)):Prop:=∃ws,bD ro v 1 gz ws∧dA (fun w l=>bD ro w 2 cM l) ws S
def nj(ro:Nat→Option Obj)(v:Value)(ways:List (List aE)):Prop:=∃ws,bD ro v 1 gz ws∧dA (fun w l=>bD ro w 7 ju l) ws ways
theorem da.up{v:Value}{S:List (List aj)}(h:da ro v S)(hs:Sub ro aJ):da aJ v S:=by
 obtain⟨ws,h1,h2⟩:=h
 exact⟨ws,h1.up hs,h2.imp fun _ _ k=>k.up hs⟩
theorem nj.up{v:Value}{w:List (List aE)}(h:nj ro v w)(hs:Sub ro aJ):nj aJ v w:=by
 obtain⟨ws,h1,h2⟩:=h
 exact⟨ws,h1.up hs,h2.imp fun _ _ k=>k.up hs⟩
theorem jA.up{hv:List bB}(h:jA ro vc vh cs hv hd)(hs:Sub ro aJ):jA aJ vc vh cs hv hd:=
 ⟨h.1.up hs,h.2.1.up hs,h.2.2.imp fun _ _ k=>⟨k.1,k.2.1,k.2.2.1,k.2.2.2.up hs⟩⟩
structure aB where
 ways:List (List aE)
 cs:List bP
 hd:List cd
 rules:List aY
 before:List ah
 after:List ah
 gone:Int
 new:Int
 af:Int
 facts:List bZ
 str:List (List aj)
def fP(ro:Nat→Option Obj)(l:List Value)(k:aB):Prop:=∃(vS vT vc vh vr vb va vf:Value) (fa:Option Addr) (fc:Nat) (hv:List bB),
 l=[vS,vT,.slice fa 0 fc,vc,vh,vr,vb,va,zI k.gone,zI k.new,zI k.af,vf]∧da ro vS k.str∧nj ro vT k.ways∧jA ro vc vh k.cs hv k.hd∧dA dw hv k.hd∧
 bD ro vr 2 gG k.rules∧bD ro vb 5 cb k.before∧bD ro va 5 cb k.after∧bD ro vf 3 nz k.facts
def mb(hd:List cd)(i:Int):Prop:=i= -1∨(0≤i∧∃x,hd[i.toNat]?=some x∧0≤x.cls)
def tR(hd:List cd)(p:ah):Prop:=DR p.name∧mb hd p.head∧(0≤p.st∧p.st≤1)∧p.bold=false
def Jv(hd:List cd)(p:ah):Prop:=tR hd p∧(p.st=0→p.no=1∨p.no=2)∧(p.st=1→p.no=1∨p.no=3)
def Jw(hd:List cd)(p:ah):Prop:=tR hd p∧1≤p.no∧p.no≤3
def F8(hd:List cd)(p:ah):Prop:=((1≤p.name.size∧p.name.size≤6)∧Script p.name)∧mb hd p.head∧(0≤p.st∧p.st≤1)∧p.bold=false
def aqj(S:List (List aj))(hd:List cd)(p:ah):Prop:=F8 hd p∧∃l,S[p.st.toNat]?=some l∧(⟨p.no,0⟩:aj)∈l
def aI8(hd:List cd)(p:ah):Prop:=F8 hd p∧1≤p.no∧p.no≤40
structure aaG(cs:List bP)(hd:List cd):Prop where
 nc:0 <cs.length∧cs.length≤6
 nh:hd.length≤6
 BI:∀(i:Nat) (x:cd),hd[i]?=some x→gN cs.length hd.length i x
structure j6(k:aB):Prop where
 pX:eS k.str
 ways:k.ways.length≤1∧∀l∈k.ways,(1≤l.length∧l.length≤2)∧∀c∈l,iO c
 di:aaG k.cs k.hd
 rules:k.rules.length≤4
 before:k.before.length≤4∧∀p∈k.before,aqj k.str k.hd p
 after:k.after.length≤4∧∀p∈k.after,aI8 k.hd p
 pF:(0≤k.gone∧k.gone≤4)∧(0≤k.new∧k.new≤4)∧(0≤k.af∧k.af≤4)
 facts:k.facts.length≤4∧(∀x∈k.facts,(0≤x.a∧x.a <k.before.length)∧(0≤x.b∧x.b <k.after.length))
 apart:k.facts.Pairwise fun x y=>¬(x.a=y.a∧x.b=y.b)
structure yZ(k:aB):Prop where
 ways:k.ways.length≤1∧∀l∈k.ways,(1≤l.length∧l.length≤2)∧∀c∈l,iO c
 di:xI k.cs k.hd
 rules:k.rules.length≤2∧∀r∈k.rules,DN r
 before:k.before.length≤4∧∀p∈k.before,Jv k.hd p
 after:k.after.length≤4∧∀p∈k.after,Jw k.hd p
 pF:(0≤k.gone∧k.gone≤4)∧(0≤k.new∧k.new≤4)∧(0≤k.af∧k.af≤4)
 facts:k.facts.length≤4∧(∀x∈k.facts,(0≤x.a∧x.a <k.before.length)∧(0≤x.b∧x.b <k.after.length))
 apart:k.facts.Pairwise fun x y=>¬(x.a=y.a∧x.b=y.b)
 str:k.str=wC
theorem abv:eS wC where
 two:=rfl
 len:=by simp[wC]
 ok:=by simp[wC,Cd]
 asc:=by simp[wC,ant]
theorem tR.c{p:ah}(h:tR hd p):F8 hd p:=⟨⟨⟨h.1.1.1,by have:=h.1.1.2;omega⟩,h.1.2⟩,h.2⟩
theorem yZ.c{k:aB}(h:yZ k):j6 k where
 pX:=by rw[h.str];exact abv
 ways:=h.ways
 di:=⟨⟨h.di.nc.1,by have:=h.di.nc.2;omega⟩,by have:=h.di.nh;omega,fun i x hx=>(h.di.BI i x hx).2⟩
 rules:=by have:=h.rules.1;omega
 before:=⟨by have:=h.before.1;omega,fun p hp=>by
  obtain⟨h1,h2,h3⟩:=h.before.2 p hp
  refine⟨h1.c,?_⟩
  rw[h.str]
  have h4:=h1.2.2.1
  rcases(by omega:p.st=0∨p.st=1) with e|e
  ·rw[e];exact⟨_,rfl,by rcases h2 e with e2|e2<;>simp[e2]⟩
  rw[e];exact⟨_,rfl,by rcases h3 e with e2|e2<;>simp[e2]⟩⟩
 after:=⟨by have:=h.after.1;omega,fun p hp=>by
  obtain⟨h1,h2,h3⟩:=h.after.2 p hp
  exact⟨h1.c,h2,by omega⟩⟩
 pF:=h.pF
 facts:=⟨by have:=h.facts.1;omega,h.facts.2⟩
 apart:=h.apart
theorem lI{hv:List bB}(h:dA dw hv hd){i:Int}(k:i= -1∨XN hv i):mb hd i:=by
 rcases k with k| ⟨k0,x,k1,k2⟩
 ·exact .inl k
 obtain⟨y,h1,h2⟩:=h.get k1
 exact .inr ⟨k0,y,h1,h2.2.1▸k2⟩
theorem GH{c e:Nat}(h1:ro b=some (.cells ⟨[zI 1,zI 0,zI 2,zI 0]⟩ 79 (0,0)))(h2:ro c=some (.cells ⟨[zI 1,zI 0,zI 3,zI 0]⟩ 79 (0,0)))
 (h3:ro e=some (.cells ⟨[.slice (some ⟨b,0,none⟩) 2 2,.slice (some ⟨c,0,none⟩) 2 2]⟩ 80 (0,0))):da ro (.slice (some ⟨e,0,none⟩) 2 2) wC:=
 ⟨_,bK [_,_] h3 (fun _ _=>rfl),.cons (bK [(⟨1,0⟩:aj),⟨2,0⟩] h1 (fun _ _=>rfl)) (.cons (bK [(⟨1,0⟩:aj),⟨3,0⟩] h2 (fun _ _=>rfl)) .nil)⟩
def uY(nb na:Nat)(fs:List bZ):Prop:=(∀x∈fs,(0≤x.a∧x.a <nb)∧(0≤x.b∧x.b <na))∧fs.Pairwise fun x y=>¬(x.a=y.a∧x.b=y.b)
theorem uY.snoc{nb na:Nat}(h:uY nb na fs){x:bZ}(ha:0≤x.a∧x.a <nb)(hb:0≤x.b∧x.b <na)(hn:A8 fs x.a x.b=false):uY nb na (fs++[x]):=by
 refine⟨lE h.1 ⟨ha,hb⟩,List.pairwise_append.2 ⟨h.2,List.pairwise_singleton _ _,fun y hy z hz e=>?_⟩⟩
 rw[List.mem_singleton] at hz;subst hz
 have:=List.any_eq_false.1 hn y hy
 simp[e.1,e.2] at this
theorem abP{w u:Int}(h:w∈[1,2,4,u])(hu:0≤u∧u≤4):0≤w∧w≤4:=by
 simp only[List.mem_cons,List.not_mem_nil,or_false] at h
 omega
theorem zg:nj ro (zS) []:=⟨[],bD.nil _ _ _ _ _,.nil⟩
theorem aTp(hl:bD ro vd 1 cB xs):eg zT 8 [vd] ro [] (fun r Y=>∃d,r= zP d∧aU vd xs d Y):=by
 obtain⟨fC,sG,sE,eO,rfl,ui,lP,mP⟩:=hl
 refine zE<|zD 8<|jn fun b5=>zD 3<|zR (zP b5) [] [0] [(b5,.cells ⟨[.slice fC xs.length eO,zI 0,zU 11400714819323198485]⟩ 76 (0,0))] ⟨_,rfl,0,_,Nat.zero_le _,rfl⟩
theorem dA.set{R:α→β→Prop}{l:List α}{m:List β}(h:dA R l m){a:α}{b:β}(hb:m[k]?=some b) (hr:R a b):dA R (l.set k a) m:=by
 induction h generalizing k with
 |nil=>simp at hb
 |cons h1 h2 ih=>
  cases k with
  |zero=>simp at hb;subst hb;exact .cons hr h2
  |succ k=>exact .cons h1 (ih (by simpa using hb))
theorem dA.mem{R:α→β→Prop}{l:List α}{m:List β}(h:dA R l m){a:α}(ha:a∈l):∃b∈m,R a b:=by
 obtain⟨i,hi⟩:=List.getElem?_of_mem ha
 obtain⟨b,hb,hr⟩:=h.get hi
 exact⟨b,zL hb,hr⟩
theorem mV{hv:List bB}(h:dA (sg ro) hv hd):∀p∈hv,∀c∈mw p,single c=true:=fun p hp=>by
 obtain⟨y,_,h1⟩:=h.mem hp
 obtain⟨w,c,s,a⟩:=p
 obtain⟨_,_,_,_,e,_⟩:=h1.2.2.2
 dsimp only at e
 subst e
 exact ai rfl
theorem To{hw:List bB}{L:Cells}{v:Value}{x x':bB}{y:cd}(h:∀aJ,Sub ro aJ→Knows aJ Z→dA (sg aJ) hw hd)(hS:dA dw hw hd)(hx:hw[k]?=some x) (lU:hw[k]?=some x') (hy:hd[k]?=some y) (ho:ay v 1 3 cB y.ee L):
 (∀aJ,Sub ro aJ→Knows aJ (L++Z)→dA (sg aJ) (hw.set k ⟨x'.word,x'.cls,x'.oL,v⟩) hd)∧dA dw (hw.set k ⟨x'.word,x'.cls,x'.oL,v⟩) hd:=by
 rw[hx] at lU;cases lU
 obtain⟨y',h1,h2⟩:=hS.get hx
 rw[hy] at h1;cases h1
 exact⟨fun aJ hs hk=>(h aJ hs hk.right).set hy ⟨h2.1,h2.2.1,h2.2.2,ho.jL hk.left⟩,hS.set hy h2⟩
theorem acI{l m:List α}{a:α}(h:l.drop k=m.drop k):(l.set k a).drop (k+1)=m.drop (k+1):=by
 have h1:=congrArg (List.drop 1) h
 rw[List.drop_drop,List.drop_drop] at h1
 rw[List.drop_set_of_lt (by omega)]
 exact h1
theorem akz{l m:List α}{a:α}(h:l.drop k=m.drop k)(ha:l[k]?=some a):m[k]?=some a:=by
 have h1:=congrArg (fun q=>q[0]?) h
 simp only[List.getElem?_drop,Nat.add_zero] at h1
 rw[←h1];exact ha
theorem uC{hv:List bB}(hT:aaG cs hd)(hR:jA ro vc vh cs hv hd)(hS:dA dw hv hd):eg zT 39 [.agg ⟨[vc,vh]⟩] ro [] (fun r Y=>∃(hw:List bB) (ca ha:Option Addr) (cc hc:Nat) (Z:Cells),r= .agg ⟨[.slice ca cs.length cc,.slice ha hw.length hc]⟩∧dA dw hw hd∧(∀aJ,Sub ro aJ→Knows aJ Z→jA aJ (.slice ca cs.length cc) (.slice ha hw.length hc) cs hw hd)∧Y=Z):=by
 obtain⟨hc,hh,dq⟩:=id hR
 obtain⟨dc,AN,AM,cY,rfl,CN,yH,yG⟩:=hc
 obtain⟨cF,rH,rG,cy,rfl,tv,pw,pn⟩:=hh
 have hlen:=hS.len
 have hnh:=hT.nh
 have EA:=hT.nc
 refine zE<|zD 2<|jn fun b1=>jn fun b2=>zD 2<|yK [1,1] [] (fun(zz:Value×Cells×Value×Cells)=>[(1,zP b1),(2,zP b2)]) (fun zz=>[.b b1 (.cells ⟨[zz.1,zz.2.2.1]⟩ 35 (0,0)),.l zz.2.1,.l zz.2.2.2,.b b2 (.cells ⟨[zS,zS]⟩ 35 (0,0))]) (fun zz=>ay zz.1 2 142 pN cs zz.2.1∧ay zz.2.2.1 4 145 mw hv zz.2.2.2) ?_ (fun K1 bO=>?_)
 ·
  rintro⟨vC,LC,vH,LH⟩ hJ rest
  dsimp only at hJ
  refine zD 6<|nY<|dV [1,1,0,1,0,0] [] (fun(zz:Nat×Value×Cells×(List bB)×Cells)=>[(1,zP b1),(2,zP b2),(3,zI (zz.1:Int))]) (fun zz=>[.b b1 (.cells ⟨[vC,zz.2.1]⟩ 35 (0,0)),.l zz.2.2.1,.l zz.2.2.2.2,.l LC,.b b2 (.cells ⟨[zS,zS]⟩ 35 (0,0))]) (fun zz=>(zz.1≤zz.2.2.2.1.length∧zz.2.2.2.1.length=hv.length∧zz.2.2.2.1.drop zz.1=hv.drop zz.1)∧ay zz.2.1 4 145 mw zz.2.2.2.1 zz.2.2.1∧(∀aJ,Sub ro aJ→Knows aJ zz.2.2.2.2→dA (sg aJ) zz.2.2.2.1 hd)∧dA dw zz.2.2.2.1 hd) (fun zz=>hv.length-zz.1) (⟨0,vH,LH,hv,[]⟩) ⟨⟨by omega,rfl,rfl⟩,hJ.2,fun _ hs _=>(hR.up hs).2.2,hS⟩ [1,3,0,2,4] ?_
  rintro⟨k,vH,LH,hw,Z⟩ hI K2 mr rest
  dsimp only at hI
  refine jd 6 [0]<|yJ hI.2.1<|zD 2<|zJ 18 ((k:Int) <(hw.length:Int)) (fun h1=>?_) fun h1=>?_
  ·
   refine jd 11 [0,0] ?_
   obtain⟨x27,Km⟩:=zG hw k
   refine HC 4 hI.2.1 Km fun b27 aRZ=>zD 1<|mT 3 [1] LH (fun s _ hZ=>bR hI.2.1 aRZ hZ Km)<|aQ 9 (fun qp qv oV=>?_)
   obtain⟨y27,av5,aPO⟩:=hR.2.2.get (akz hI.1.2.2 Km)
   have aWt:=(hT.BI _ _ av5).2.2.1.1
   refine jc (vs:=[x27.ee]) [] (ahb aPO.2.2.2 (by omega)) ?_
   rintro v30 L30 ⟨_,Df,rfl⟩
   refine eo oV (zN 1 5) ?_
   obtain⟨x31,aoE⟩:=zG hw k
   refine HC 4 hI.2.1 aoE fun JZ aRX=>zD 1<|aQ 12 (fun sq su qR=>?_)
   obtain⟨va4,vc4,he4⟩:=Df.form
   subst he4
   refine MC 2 3 [(.slice va4 (y27.ee).length vc4)] (⟨x31.word,x31.cls,x31.oL,(.slice va4 (y27.ee).length vc4)⟩:bB) hI.2.1 aRX aoE rfl rfl (Nat.le_of_ble_eq_true rfl) fun L5 ho6=>fJ qR []<|zD 3<|ja ((k:Int)+1) (by omega)<|zD 2<|Ki mr (⟨k+1,vH,L5,(hw.set k (⟨x31.word,x31.cls,x31.oL,(.slice va4 (y27.ee).length vc4)⟩:bB)),L30++Z⟩) ⟨⟨by rw[List.length_set];omega,by rw[List.length_set];exact hI.1.2.1,acI hI.1.2.2⟩,ho6,(To hI.2.2.1 hI.2.2.2 Km aoE av5 Df).1,(To hI.2.2.1 hI.2.2.2 Km aoE av5 Df).2⟩ (by omega) [[2],[0],[1,3],[4],[5]] (Sub.refl _)
  refine jd 5 [0] ?_
  obtain⟨Ut,Un,SJ⟩:=hJ.1.form
  subst SJ
  obtain⟨va8,vc8,he8⟩:=hI.2.1.form
  subst he8
  refine jd 3 [4]<|zR (.agg ⟨[(.slice Ut (cs).length Un),(.slice va8 (hw).length vc8)]⟩) [4] [1,2,3] (LH++(Z++LC)) ⟨hw,_,_,_,_,_,rfl,hI.2.2.2,fun aJ hs hk=>⟨hJ.1.jL hk.right.right,hI.2.1.jL hk.left,hI.2.2.1 aJ hs hk.right.left⟩,rfl⟩
 refine jd 5 [1,1]<|Ez [0,4] ⟨fun z5 t6 Wl=>?_,fun z8 t9 uO=>?_,trivial⟩
 ·
  refine jn fun b4=>eo Wl [1,2]<|Ez [3,4] ⟨fun z11 t12 O4=>?_,fun z14 t15 Ky=>?_,trivial⟩
  ·
   refine iC (sz:=2) (ps:=[]) (qs:=cs) (enc:=pN) (w:= .slice dc cs.length cY) [0] [] [] (bC (b:=b4) (T:=142)) (fun s he _=>⟨dc,AN,AM,cY,rfl,yH,fun i p hp=>(yG i p hp).ext he⟩) (fun p _=>ai rfl) (by simp<;>omega) (fun v7 L7 iI=>?_)
   rw[List.nil_append] at iI
   obtain⟨Ut,Un,SJ⟩:=iI.form
   subst SJ
   refine fJ O4 [[2]]<|zD 1<|aQ 4 fun adR aeG Im=>jn fun b8=>eo Im [1,2,3]<|aQ 7 fun aqy aqR O3=>iC (sz:=4) (ps:=[]) (qs:=hv) (enc:=mw) (w:= .slice cF hv.length cy) [0] [] [] (bC (b:=b8) (T:=145)) (fun s he _=>⟨cF,rH,rG,cy,rfl,pw,fun i p hp=>(pn i p hp).ext he⟩) (mV dq) (by simp only[List.length_nil,Nat.zero_add];omega) (fun v11 L11 qM=>?_)
   rw[List.nil_append] at qM
   obtain⟨aep,aee,aiC⟩:=qM.form
   subst aiC
   refine fJ O3 []<|aQ 9 fun aqx aqQ WB=>jd 1 [3]<|fp WB<|zD 1<|aQ 11 fun aBD aCs WA=>jd 1 [3]<|fp WA<|zD 1<|bA bO ⟨(.slice Ut (cs).length Un),L7,(.slice aep (hv).length aee),L11⟩ ⟨iI,qM⟩ Nat.zero_lt_one [3,1,0,2] (Sub.refl _)
  refine jn fun b8=>eo Ky [1,2,3]<|aQ 3 fun aUI aU1 acr=>iC (sz:=2) (ps:=[]) (qs:=cs) (enc:=pN) (w:= .slice dc cs.length cY) [1] [] [] (bC (b:=b4) (T:=142)) (fun s he _=>⟨dc,AN,AM,cY,rfl,yH,fun i p hp=>(yG i p hp).ext he⟩) (fun p _=>ai rfl) (by simp<;>omega) (fun v7 L7 iI=>?_)
  rw[List.nil_append] at iI
  obtain⟨Ut,Un,SJ⟩:=iI.form
  subst SJ
  refine fJ acr [[3]]<|zD 1<|aQ 7 fun aUH aU0 ai2=>iC (sz:=4) (ps:=[]) (qs:=hv) (enc:=mw) (w:= .slice cF hv.length cy) [1] [] [] (bC (b:=b8) (T:=145)) (fun s he _=>⟨cF,rH,rG,cy,rfl,pw,fun i p hp=>(pn i p hp).ext he⟩) (mV dq) (by simp only[List.length_nil,Nat.zero_add];omega) (fun v11 L11 qM=>?_)
  rw[List.nil_append] at qM
  obtain⟨aep,aee,aiC⟩:=qM.form
  subst aiC
  refine fJ ai2 []<|aQ 9 fun aBC aCr Wz=>jd 1 [3]<|fp Wz<|zD 1<|aQ 11 fun aUG aUZ ai1=>jd 1 [3]<|fp ai1<|zD 1<|bA bO ⟨(.slice Ut (cs).length Un),L7,(.slice aep (hv).length aee),L11⟩ ⟨iI,qM⟩ Nat.zero_lt_one [3,1,0,2] (Sub.refl _)
 refine jn fun b8=>eo uO [1,2]<|aQ 0 fun aqw aqP O2=>jn fun b4=>eo O2 [1,2,3]<|aQ 3 fun XU Yc BL=>iC (sz:=2) (ps:=[]) (qs:=cs) (enc:=pN) (w:= .slice dc cs.length cY) [0] [] [] (bC (b:=b4) (T:=142)) (fun s he _=>⟨dc,AN,AM,cY,rfl,yH,fun i p hp=>(yG i p hp).ext he⟩) (fun p _=>ai rfl) (by simp<;>omega) (fun v7 L7 iI=>?_)
 rw[List.nil_append] at iI
 obtain⟨Ut,Un,SJ⟩:=iI.form
 subst SJ
 refine fJ BL [[3]]<|zD 1<|aQ 7 fun KT La Dq=>iC (sz:=4) (ps:=[]) (qs:=hv) (enc:=mw) (w:= .slice cF hv.length cy) [1] [] [] (bC (b:=b8) (T:=145)) (fun s he _=>⟨cF,rH,rG,cy,rfl,pw,fun i p hp=>(pn i p hp).ext he⟩) (mV dq) (by simp only[List.length_nil,Nat.zero_add];omega) (fun v11 L11 qM=>?_)
 rw[List.nil_append] at qM
 obtain⟨aep,aee,aiC⟩:=qM.form
 subst aiC
 refine fJ Dq []<|aQ 9 fun KS K0 Dp=>jd 1 [3]<|fp Dp<|zD 1<|aQ 11 fun KR KZ Dm=>jd 1 [3]<|fp Dm<|zD 1<|bA bO ⟨(.slice Ut (cs).length Un),L7,(.slice aep (hv).length aee),L11⟩ ⟨iI,qM⟩ Nat.zero_lt_one [3,1,0,2] (Sub.refl _)
structure dj where
 a:Int
 b:Int
 c:Int
 d:Int
 e:Int
 f:Int
abbrev mZ(x:dj):List Value:=[zI x.a,zI x.b,zI x.c,zI x.d,zI x.e,zI x.f]
def TV(K:aB)(l:List Value):Prop:=∃v0 v1 v3 v4 v5 v6 v7 vb fa fc,l=[v0,v1,.slice fa 0 fc,v3,v4,v5,v6,v7,zI K.gone,zI K.new,zI K.af,vb]∧∀v∈[v0,v1,v3,v4,v5,v6,v7,vb],single v=true
theorem TV.all{K:aB}{l:List Value}(h:TV K l):∀v∈l,single v=true:=by
 obtain⟨v0,v1,v3,v4,v5,v6,v7,vb,fa,fc,rfl,h⟩:=h
 simp only[List.mem_cons,List.not_mem_nil,or_false] at h ⊢
 rintro v (rfl|rfl|rfl|rfl|rfl|rfl|rfl|rfl|rfl|rfl|rfl|rfl)<;>first|rfl|exact h _ (by simp)
theorem dF{v:Value}{enc:α→List Value}{ps:List α}{L:Cells}(h:ay v sz T enc ps L):single v=true:=by
 obtain⟨a,c,rfl⟩:=h.form;rfl
theorem fo{v:Value}{enc:α→List Value}{ps:List α}(h:bD ro v sz enc ps):single v=true:=by
 obtain⟨a,b,o,c,rfl,_⟩:=h;rfl
theorem wm{a b c d e f g h:Value}(h1:single a=true)(h2:single b=true)(h3:single c=true)(h4:single d=true)(h5:single e=true)(h6:single f=true)(h7:single g=true)(h8:single h=true):∀v∈[a,b,c,d,e,f,g,h],single v=true:=by
 simp only[List.mem_cons,List.not_mem_nil,or_false]
 rintro v (rfl|rfl|rfl|rfl|rfl|rfl|rfl|rfl)<;>assumption
theorem oQ{P:Prop}{p:α}(h:([]:List α)[i]?=some p):P:=by simp at h
theorem eA{l:List α}{a:α}(h:l[i]?=some a):l.take (i+1)=l.take i++[a]:=by
 rw[List.take_succ,h];rfl
theorem qo{R:α→β→Prop}{ws:List α}{ls:List β}{w:α}{l:β}(h:dA R ws (ls.take i))(hl:ls[i]?=some l) (hr:R w l):dA R (ws++[w]) (ls.take (i+1)):=by
 rw[eA hl];exact h.snoc hr
def hqw:ByteArray:=bs [72,81,87]
def kindOf(r:Int):Int:=if 97≤r∧r≤122 then 1 else if (65≤r∧r≤90)∧Se hqw (UInt8.ofNat (IntKind.u8.wrap r).toNat) <0 then 2 else 0
theorem aIb:EF zT 299 Extern.BytealgIndexByte.indexByte:=⟨Tryz.f299,Tryz.func299,by kernel_rfl,by kernel_rfl,by kernel_rfl,by kernel_rfl⟩
theorem abV{a:ByteArray}{b:Int}:dK zT 291 [.string a,.int .u8 b] ro (zI (Se a (b).toNat.toUInt8)):=by
 refine zE<|zD 8<|jib (a:=a) (b:=b) aIb<|zD 3<|zX (zI (Se a (b).toNat.toUInt8)) ⟨rfl,rfl⟩
theorem abW{a:ByteArray}{b:Int}:dK zT 274 [.string a,.int .u8 b] ro (zI (Se a (b).toNat.toUInt8)):=by
 refine zE<|zD 8<|jp (vs:=[.string a,.int .u8 b]) [] [] (fun aH hs hZ=>abV)<|zD 3<|zX (zI (Se a (b).toNat.toUInt8)) ⟨rfl,rfl⟩
theorem avZ{a:ByteArray}(hr:0≤r∧r <128):dK zT 250 [.string a,.int .i32 r] ro (zI (Se a (IntKind.u8.wrap r).toNat.toUInt8)):=by
 refine zE<|zD 10<|jj 3 [(0,.string a),(1,.int .i32 r),(4,zI 0),(166,.bool ((decide (0≤r))&&(decide (r <128))))] (fun gp=>?_) (fun hj=>?_)
 rotate_left
 refine js 163 (decide (0≤r)) (fun h1=>?_) (fun h1=>?_)
 ·
  have gh:=h1
  replace gh:=of_decide_eq_true gh
  refine zD 3<|jw 166 (.bool ((decide (0≤r))&&(decide (r <128)))) (w:= .bool (decide (r <128))) (by rw[h1]<;>rfl) ?_
  exact zK hj
 ·
  have gh:=h1
  replace gh:=of_decide_eq_false gh
  refine zD 3<|jw 166 (.bool ((decide (0≤r))&&(decide (r <128)))) (w:= .bool false) (by rw[h1]<;>rfl) ?_
  exact zK hj
 refine zD 2<|js 160 ((decide (0≤r))&&(decide (r <128))) (fun h2=>?_) (fun h2=>?_)
 ·
  try simp only[zB] at h2
  refine zD 6<|jp (vs:=[.string a,.int .u8 (IntKind.u8.wrap r)]) [] [] (fun aH hs hZ=>abW)<|zD 3<|zX (zI (Se a ((IntKind.u8.wrap r)).toNat.toUInt8)) ⟨rfl,rfl⟩
 try simp only[zB] at h2
 exfalso;omega
theorem ape{a:ByteArray}(hr:0≤r∧r <128):dK zT 229 [.string a,.int .i32 r] ro (.bool (decide (Se a (IntKind.u8.wrap r).toNat.toUInt8≥0))):=by
 refine zE<|zD 8<|jp (vs:=[.string a,.int .i32 r]) [] [] (fun aH hs hZ=>avZ (by omega))<|zD 4<|zX (.bool (decide ((Se a (IntKind.u8.wrap r).toNat.toUInt8)≥0))) ⟨rfl,rfl⟩
theorem arj:dK zT 207 [.int .i32 r] ro (zI (kindOf r)):=by
 refine zE<|zD 11<|jj 3 [(0,.int .i32 r),(2,zI 0),(9,.bool ((decide (r≥97))&&(decide (r≤122))))] (fun gp=>?_) (fun hj=>?_)
 rotate_left
 refine js 6 (decide (r≥97)) (fun h1=>?_) (fun h1=>?_)
 ·
  have gh:=h1
  replace gh:=of_decide_eq_true gh
  refine zD 3<|jw 9 (.bool ((decide (r≥97))&&(decide (r≤122)))) (w:= .bool (decide (r≤122))) (by rw[h1]<;>rfl) ?_
  exact zK hj
 ·
  have gh:=h1
  replace gh:=of_decide_eq_false gh
  refine zD 3<|jw 9 (.bool ((decide (r≥97))&&(decide (r≤122)))) (w:= .bool false) (by rw[h1]<;>rfl) ?_
  exact zK hj
 refine zD 2<|js 3 ((decide (r≥97))&&(decide (r≤122))) (fun h2=>?_) (fun h2=>?_)
 ·
  try simp only[zB] at h2
  refine zD 6<|zX (zI 1) ⟨by simp only[kindOf,hqw];congr 1;(try simp at*);(repeat' split)<;>omega,rfl⟩
 try simp only[zB] at h2
 refine zD 6<|jj 3 [(0,.int .i32 r),(2,zI 0),(16,.bool ((decide (r≥65))&&(decide (r≤90))))] (fun gp=>?_) (fun hj=>?_)
 rotate_left
 refine js 13 (decide (r≥65)) (fun h3=>?_) (fun h3=>?_)
 ·
  have xd:=h3
  replace xd:=of_decide_eq_true xd
  refine zD 3<|jw 16 (.bool ((decide (r≥65))&&(decide (r≤90)))) (w:= .bool (decide (r≤90))) (by rw[h3]<;>rfl) ?_
  exact zK hj
 ·
  have xd:=h3
  replace xd:=of_decide_eq_false xd
  refine zD 3<|jw 16 (.bool ((decide (r≥65))&&(decide (r≤90)))) (w:= .bool false) (by rw[h3]<;>rfl) ?_
  exact zK hj
 refine zD 1<|jj 4 [(2,zI 0),(21,.bool (((decide (r≥65))&&(decide (r≤90)))&&(!(decide (Se (bs [72,81,87]) (IntKind.u8.wrap r).toNat.toUInt8≥0)))))] (fun gp=>?_) (fun hj=>?_)
 rotate_left
 refine js 17 ((decide (r≥65))&&(decide (r≤90))) (fun h4=>?_) (fun h4=>?_)
 ·
  have yP:=h4
  try simp only[zB] at yP
  refine zD 1<|jp (vs:=[.string (bs [72,81,87]),.int .i32 r]) [] [] (fun aH hs hZ=>ape (by omega))<|zD 2<|jw 21 (.bool (((decide (r≥65))&&(decide (r≤90)))&&(!(decide (Se (bs [72,81,87]) (IntKind.u8.wrap r).toNat.toUInt8≥0))))) (w:= .bool (!(decide (Se (bs [72,81,87]) (IntKind.u8.wrap r).toNat.toUInt8≥0)))) (by rw[h4]<;>rfl) ?_
  exact zK hj
 ·
  have yP:=h4
  try simp only[zB] at yP
  refine zD 4<|jw 21 (.bool (((decide (r≥65))&&(decide (r≤90)))&&(!(decide (Se (bs [72,81,87]) (IntKind.u8.wrap r).toNat.toUInt8≥0))))) (w:= .bool false) (by rw[h4]<;>rfl) ?_
  exact zK hj
 refine zD 2<|js 10 (((decide (r≥65))&&(decide (r≤90)))&&(!(decide (Se (bs [72,81,87]) (IntKind.u8.wrap r).toNat.toUInt8≥0)))) (fun h5=>?_) (fun h5=>?_)
 ·
  try simp only[zB] at h5
  refine zD 6<|zX (zI 2) ⟨by simp only[kindOf,hqw];congr 1;(try simp at*);(repeat' split)<;>omega,rfl⟩
 try simp only[zB] at h5
 refine zD 7<|zX (zI 0) ⟨by simp only[kindOf,hqw];congr 1;(try simp at*);(repeat' split)<;>omega,rfl⟩
theorem agL:((List.range 256).all fun n=> !Hx (UInt8.ofNat n)||decide (kindOf (n:Int)=1))=true:=by kernel_rfl
theorem agK:((List.range 256).all fun n=> !Hf (UInt8.ofNat n)||decide (kindOf (n:Int)=2))=true:=by kernel_rfl
def aaJ(w:ByteArray)(k:Int):Prop:=∀b∈w.data.toList,b.toNat <128∧kindOf (b.toNat:Int)=k
theorem Q0{w:ByteArray}(h:Script w):∃k:Int,(k=1∨k=2)∧aaJ w k:=by
 have hb:∀b:UInt8,UInt8.ofNat b.toNat=b:=fun b=>by simp
 rcases h with h|h
 ·refine⟨1,.inl rfl,fun b mH=>?_⟩
  have h1:=h b mH
  have h2:=List.all_eq_true.1 agL b.toNat (List.mem_range.2 b.toNat_lt)
  rw[hb,h1] at h2
  simp only[Hx,Bool.and_eq_true,Nat.ble_eq] at h1
  exact⟨by omega,by simpa using h2⟩
 refine⟨2,.inr rfl,fun b mH=>?_⟩
 have h1:=h b mH
 have h2:=List.all_eq_true.1 agK b.toNat (List.mem_range.2 b.toNat_lt)
 rw[hb,h1] at h2
 simp only[Hf,Bool.and_eq_true,Nat.ble_eq] at h1
 exact⟨by omega,by simpa using h2⟩
theorem anP{w:ByteArray}{k:Int}(hs:1≤w.size∧w.size≤6)(hk:k=1∨k=2)(hK:aaJ w k):dK zT 166 [.string w] ro (zI 0):=by
 refine zE<|zD 11<|zJ 9 ((w.size:Int)=0) (fun h1=>?_) fun h1=>?_
 ·
  exfalso;omega
 refine zD 9<|zJ 12 ((w.size:Int)>6) (fun h2=>?_) fun h2=>?_
 ·
  exfalso;omega
 refine zD 10<|jn fun r14=>zD 2<|dV [1,1,1,1,0,1,0,0] [] (fun(zz:Nat×Int)=>[(3,zI zz.2),(14,zP r14)]) (fun zz=>[.b r14 (.stringIter w zz.1)]) (fun zz=>zz.1≤w.data.toList.length∧(zz.2=0∨zz.2=k)) (fun zz=>w.data.toList.length-zz.1) (⟨0,0⟩) ⟨by omega,.inl rfl⟩ [0] ?_
 rintro⟨p,sc⟩ hI K1 bO rest
 dsimp only at hI
 refine zD 2 ?_
 cases Sx:w.data.toList[p]? with
 |some A1=>
  refine jnA r14 0 Sx (hK _ (zL Sx)).1<|zD 7 ?_
  have ZI:=(hK _ (zL Sx)).2
  refine zD 7<|jp (vs:=[.int .i32 (A1.toNat:Int)]) [] [] (fun aH hs hZ=>arj)<|zD 8<|zJ 21 (sc=0) (fun h3=>?_) fun h3=>?_
  ·
   refine zD 10<|jj 4 [(3,zI (kindOf (A1.toNat:Int))),(14,zP r14),(29,.bool ((decide ((kindOf (A1.toNat:Int))=0))||(!decide ((kindOf (A1.toNat:Int))=(kindOf (A1.toNat:Int))))))] (fun gp=>?_) (fun hj=>?_)
   rotate_left
   refine js 25 (decide ((kindOf (A1.toNat:Int))=0)) (fun h4=>?_) (fun h4=>?_)
   ·
    have yP:=h4
    replace yP:=of_decide_eq_true yP
    refine zD 4<|jw 29 (.bool ((decide ((kindOf (A1.toNat:Int))=0))||(!decide ((kindOf (A1.toNat:Int))=(kindOf (A1.toNat:Int)))))) (w:= .bool true) (by rw[h4]<;>rfl) ?_
    exact zK hj
   ·
    have yP:=h4
    replace yP:=of_decide_eq_false yP
    refine zD 4<|jw 29 (.bool ((decide ((kindOf (A1.toNat:Int))=0))||(!decide ((kindOf (A1.toNat:Int))=(kindOf (A1.toNat:Int)))))) (w:= .bool (!decide ((kindOf (A1.toNat:Int))=(kindOf (A1.toNat:Int))))) (by rw[h4]<;>rfl) ?_
    exact zK hj
   refine zD 1<|js 29 ((decide ((kindOf (A1.toNat:Int))=0))||(!decide ((kindOf (A1.toNat:Int))=(kindOf (A1.toNat:Int))))) (fun h5=>?_) (fun h5=>?_)
   ·
    try simp only[zB] at h5
    exfalso;omega
   try simp only[zB] at h5
   refine zD 2<|bA bO (⟨p+1,(kindOf (A1.toNat:Int))⟩) ⟨by have:=(List.getElem?_eq_some_iff.1 Sx).1;dsimp only;omega,by dsimp only;omega⟩ (by have:=(List.getElem?_eq_some_iff.1 Sx).1;dsimp only;omega) [0] (Sub.refl _)
  refine zD 7<|jj 4 [(3,zI sc),(14,zP r14),(29,.bool ((decide ((kindOf (A1.toNat:Int))=0))||(!decide ((kindOf (A1.toNat:Int))=sc))))] (fun gp=>?_) (fun hj=>?_)
  rotate_left
  refine js 25 (decide ((kindOf (A1.toNat:Int))=0)) (fun h6=>?_) (fun h6=>?_)
  ·
   have h6g:=h6
   replace h6g:=of_decide_eq_true h6g
   refine zD 4<|jw 29 (.bool ((decide ((kindOf (A1.toNat:Int))=0))||(!decide ((kindOf (A1.toNat:Int))=sc)))) (w:= .bool true) (by rw[h6]<;>rfl) ?_
   exact zK hj
  ·
   have h6g:=h6
   replace h6g:=of_decide_eq_false h6g
   refine zD 4<|jw 29 (.bool ((decide ((kindOf (A1.toNat:Int))=0))||(!decide ((kindOf (A1.toNat:Int))=sc)))) (w:= .bool (!decide ((kindOf (A1.toNat:Int))=sc))) (by rw[h6]<;>rfl) ?_
   exact zK hj
  refine zD 1<|js 29 ((decide ((kindOf (A1.toNat:Int))=0))||(!decide ((kindOf (A1.toNat:Int))=sc))) (fun h7=>?_) (fun h7=>?_)
  ·
   try simp only[zB] at h7
   exfalso;omega
  try simp only[zB] at h7
  refine zD 2<|bA bO (⟨p+1,sc⟩) ⟨by have:=(List.getElem?_eq_some_iff.1 Sx).1;dsimp only;omega,by dsimp only;omega⟩ (by have:=(List.getElem?_eq_some_iff.1 Sx).1;dsimp only;omega) [0] (Sub.refl _)
 |none=>
  refine jnZ r14 0 Sx<|zD 10<|zX (zI 0) ⟨rfl,rfl⟩
def mL:=(nB Tryz.typeInfo3 Tryz.underlying3 rfl rfl rfl rfl rfl rfl:TF zT 3 _ 1 8 _ false)
theorem akn(a b c d:Int)(dep:Nat):EqD zT (dep+2) 79 (.agg ⟨[zI a,zI b]⟩) (.agg ⟨[zI c,zI d]⟩) (a==c&&(b==d&&true)):=
 uR (nB Tryz.typeInfo79 Tryz.underlying79 rfl rfl rfl rfl rfl rfl) Tryz.stoodInHeld79 (.cons (by decide) (ky mL rfl) (ky mL rfl) (oE mL _ _) (.cons (by decide) (ky mL rfl) (ky mL rfl) (oE mL _ _) .nil))
theorem xq(a b c d:Int):EqV zT 79 (.agg ⟨[zI a,zI b]⟩) (.agg ⟨[zI c,zI d]⟩) (a==c&&(b==d&&true)):=Pn (akn a b c d _)
theorem azb(a b c d e f:Int):EqV zT 158 (.agg ⟨[zI a,zI b,zI c]⟩) (.agg ⟨[zI d,zI e,zI f]⟩) (a==d&&(b==e&&(c==f&&true)&&true)):=
 Pn (uR (nB Tryz.typeInfo158 Tryz.underlying158 rfl rfl rfl rfl rfl rfl) Tryz.stoodInHeld158 (.cons (by decide) (ky mL rfl) (ky mL rfl) (oE mL _ _) (.cons (by decide) (Hc (nB Tryz.typeInfo79 Tryz.underlying79 rfl rfl rfl rfl rfl rfl) rfl) (Hc (nB Tryz.typeInfo79 Tryz.underlying79 rfl rfl rfl rfl rfl rfl) rfl) (akn _ _ _ _ _) .nil)))
theorem Hk:oH zT 79:=Tryz.eqGuardType79
theorem aEl:oH zT 158:=Tryz.eqGuardType158
def CU(n l:Int)(y:aj):Bool:=n==y.n&&(l==y.l&&true)
theorem Vl{w:ByteArray}(hs:1≤w.size∧w.size≤6)(h:Script w):dK zT 166 [.string w] ro (zI 0):=by
 obtain⟨k,h1,h2⟩:=Q0 h
 exact anP hs h1 h2
theorem Bu:dK zT 74 [zI 0] ro (.tuple ⟨[]⟩):=by
 refine zE<|zD 7<|zX (.tuple ⟨[]⟩) ⟨rfl,rfl⟩
theorem Zq{x:ah}:dK zT 73 [.agg ⟨[.string x.name,zI x.st,zI x.no,zI x.head,.bool x.bold]⟩] ro (.agg ⟨[zI x.st,zI x.no,zI 0]⟩):=by
 refine zE<|zD 2<|jn fun b1=>jn fun b2=>jd 12 [1,1,0]<|zR (.agg ⟨[zI x.st,zI x.no,zI 0]⟩) [0] [] [] ⟨rfl,rfl⟩
theorem ag7{v:Value}{ps:List aj}{l:Int}(hp:bD ro v 2 cM ps)(hn:ps.length≤1000):dK zT 208 [v,.agg ⟨[zI n,zI l]⟩] ro (zI (cw (CU n l) ps 0)):=by
 obtain⟨T3,qpb,qpo,LU,rfl,qpk,qph,qpl⟩:=hp
 refine zE<|zD 2<|jn fun b3=>zD 10<|dV [1,0,1,0,0] [] (fun(zz:Nat)=>[(0,.slice T3 ps.length LU),(3,zP b3),(7,zI (ps.length:Int)),(8,zI (zz:Int))]) (fun zz=>[.b b3 (.cells ⟨[zI n,zI l]⟩ 79 (0,0))]) (fun zz=>zz≤ps.length∧cw (CU n l) ps 0=cw (CU n l) (ps.drop zz) zz) (fun zz=>ps.length-zz) 0 ⟨by omega,rfl⟩ [0] ?_
 rintro k hI K1 bO rest
 refine zD 5<|zJ 9 ((k:Int) <(ps.length:Int)) (fun h1=>?_) fun h1=>?_
 ·
  refine jd 14 [0] ?_
  obtain⟨fL,eH⟩:=zG ps k
  refine iz LU 2 qph eH<|jl 0 (qpl _ _ eH)<|jeq Hk (xq n l fL.n fL.l)<|zD 1<|js 16 (n==fL.n&&(l==fL.l&&true)) (fun h2=>?_) (fun h2=>?_)
  ·
   refine zD 7<|zX (zI (k:Int)) ⟨by rw[hI.2,jO eH,show CU n l fL=true from (by assumption)];rfl,rfl⟩
  refine zD 3<|ja ((k:Int)+1) (by omega)<|zD 2<|bA bO (k+1) ⟨by omega,by rw[hI.2,jO eH,show CU n l fL=false from (by assumption)];rfl⟩ (by omega) [0] (Sub.refl _)
 refine zD 7<|zX (zI (-1)) ⟨by rw[hI.2,qX (by omega)],rfl⟩
theorem MA{v:Value}{ps:List aj}{l:Int}(hp:bD ro v 2 cM ps)(hn:ps.length≤1000):dK zT 167 [v,.agg ⟨[zI n,zI l]⟩] ro (.bool (decide (cw (CU n l) ps 0≥0))):=by
 obtain⟨T3,qpb,qpo,LU,rfl,qpk,qph,qpl⟩:=hp
 refine zE<|zD 2<|jn fun b3=>jd 6 [0]<|jp (vs:=[.slice T3 ps.length LU,.agg ⟨[zI n,zI l]⟩]) [] [] (fun aH hs hZ=>ag7 ((show bD _ _ _ _ _ from ⟨T3,qpb,qpo,LU,rfl,qpk,qph,qpl⟩).up hs) (by first|omega| (simp only[List.length_set,zM];omega))) ?_
 refine zD 4<|zX (.bool (decide ((cw (CU n l) ps 0)≥0))) ⟨rfl,rfl⟩
end Go.L
