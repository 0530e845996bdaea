/- Part 6 of the proof. -/
import Derived.Test.YtfamogolneloaaaGreatDoorT5
import Derived.KernelRfl
import Derived.Lib.UnsafeStr
import Derived.Test.YtfamogolneloaaaGreatDoorProg
set_option maxRecDepth 100000
set_option linter.all false
namespace Go.L
open Go Go.Conc
variable {ro oA aC:Nat→Option Obj} {xs al ys:List Int} {Φ:Value→Cells→Prop} {α β κ:Type} {vd vm vc vh s0 s1 s2 t0 t1 ru vb va:Value} {X fr:Cells} {o:Option JS} {args:List Value} {f:FuncId} {P:Program} {d i k n b ck nc sz nh r bG it:Nat} {seen:List Nat} {R:Ending→St→Prop} {E:TypeId} {many lo hi ab gone new:Int} {nm:ByteArray} {ag:Bool}
def u1(r ck:Nat)(seen:List Nat):Obj:= .mapIter (some r) ck ⟨seen⟩ ck
def cT(es:Array MapEntry)(seen:List Nat):List MapEntry:=es.toList.filter fun e=> !seen.contains e.born
theorem Ds(es:Array MapEntry):cT es []=es.toList:=by simp[cT]
theorem abt{es:Array MapEntry}{e:MapEntry}:e∈cT es (seen++[b])↔e∈cT es seen∧e.born≠b:=by
 simp only[cT,List.mem_filter,Bool.not_eq_true',List.contains_eq_mem,List.mem_append,List.mem_singleton,decide_eq_false_iff_not,not_or,and_assoc]
theorem HG{es:Array MapEntry}{e:MapEntry}(h:e∈cT es seen):(cT es (seen++[e.born])).length <(cT es seen).length:=by
 have:cT es (seen++[e.born])=(cT es seen).filter fun x=> !decide (x.born=e.born):=by
  simp only[cT,List.filter_filter]
  refine List.filter_congr fun x _=>?_
  simp only[List.contains_eq_mem,List.mem_append,List.mem_singleton,Bool.decide_or,Bool.not_or]
  rw[Bool.and_comm]
 rw[this]
 exact List.length_filter_lt_length_iff_exists.2 ⟨e,h,by simp⟩
def mrV(P:Program)(n:Nat)(p:Oper)(e:Env):Option Value:=match p.op with
 | .range T x=>match bh P T with
  |some ⟨.map _ _,_,_,_⟩=>bA n e x
  |_=>none
 |_=>none
def nmV(n:Nat)(p:Oper)(e:Env):Option Value:=match p.op with
 | .next x false=>bA n e x
 |_=>none
def enV(n:Nat)(p:Oper)(e:Env):Option Value:=match p.op with
 | .entry x=>bA n e x
 |_=>none
theorem Ld{s:St}{Q:β→St→Prop}{E:Halt→St→Prop}{k:Nat→Sem β}(hn:0 <n)(h:∀j,j <n→bR P (k j) s Q E):bR P (choose (.mapNext n) >>= k) s Q E:=by
 show (if (Question.mapNext n).forced=true then _ else _)
 split
 ·exact h 0 hn
 exact fun q=>h _ (Nat.mod_lt _ hn)
section
variable {X:Cx} {o:Option JS}
theorem jmR{es:Array MapEntry}(hm:X.ro r=some (.map es ck))(hj:∀b,J X (nG [] (.pointer (some ⟨b,0,none⟩)) [(b,u1 r ck [])] o))(hv:fq X.n (mrV X.P X.n) o=some (.map (some r)):=by kernel_rfl)(hB:eg [] o=some []:=by kernel_rfl):J X o:=by
 refine jS (Φ:=fun v L'=>∃b,v= .pointer (some ⟨b,0,none⟩)∧L'=[(b,u1 r ck [])]) [] [] hv hB (fun p e hf=>?_) (fun v L' qB=>?_)
 ·unfold mrV at hf
  split at hf<;>try (cases hf;done)
  rename_i T x az
  split at hf<;>try (cases hf;done)
  rename_i dX
  obtain⟨bG,tf⟩:=av dX
  refine⟨by rw[az];simp,fun R Q E hQ=>?_⟩
  simp only[execOp,az,Instr.range,aa,bk tf,aG hf]
  refine cO (.inl hm) rfl rfl ?_
  simp only[aa,af,oK]
  intro b hb
  exact hQ _ _ ⟨b,rfl,rfl⟩
 obtain⟨b,rfl,rfl⟩:=qB
 exact hj b
theorem jmN{kv:κ→Value}{F:List (κ×Value)}{es:Array MapEntry}(i:Nat)(hm:X.ro r=some (.map es ck))(hE:tK kv F es ck)
 (hT:∀k v e,(k,v)∈F→e∈cT es seen→e.key=kv k→e.val=v→J X (nG [i] (.tuple ⟨[.bool true,kv k,v]⟩) [(it,u1 r ck (seen++[e.born]))] o))
 (hF:cT es seen=[]→J X (nG [i] (.tuple ⟨[.bool false]⟩) [(it,u1 r ck seen)] o))
 (hv:fq X.n (nmV X.n) o=some (.pointer (some ⟨it,0,none⟩)):=by kernel_rfl)(hB:eg [i] o=some [(it,u1 r ck seen)]:=by kernel_rfl):J X o:=by
 refine jS (Φ:=fun v L'=>(∃e,e∈cT es seen∧v= .tuple ⟨[.bool true,e.key,e.val]⟩∧L'=[(it,u1 r ck (seen++[e.born]))])∨(cT es seen=[]∧v= .tuple ⟨[.bool false]⟩∧L'=[(it,u1 r ck seen)])) [i] _ hv hB (fun p e hf=>?_) (fun v L' qB=>?_)
 ·unfold nmV at hf
  split at hf<;>try (cases hf;done)
  rename_i x az
  refine⟨by rw[az];simp,fun R Q E hQ=>?_⟩
  simp only[execOp,az,Instr.next,aa,aG hf]
  have hs:(⟨X.ro,[(it,u1 r ck seen)]++R⟩:St).rw=[]++(it,u1 r ck seen)::R:=rfl
  refine cO (o:=u1 r ck seen) (.inr (by rw[hs];exact fF)) rfl rfl ?_
  simp only[u1,aa]
  refine cO (.inl hm) rfl rfl ?_
  simp only[aa]
  have hb:=hE.2.2
  have bX:¬((!(⟨seen⟩:Array Nat).isEmpty&& !es.isEmpty&&es.all (·.born≥ck))=true):=by
   intro h
   simp only[Bool.and_eq_true,Bool.not_eq_true',Array.all_eq_true,decide_eq_true_eq] at h
   obtain⟨⟨_,h1⟩,h2⟩:=h
   have vw:0 <es.size:=by
    rcases Nat.eq_zero_or_pos es.size with h0|h0
    ·simp[Array.isEmpty,h0] at h1
    exact h0
   have:=h2 0 vw
   have:=hb es[0] (by simp)
   omega
  rw[if_neg bX]
  have yQ:(es.filter fun e=> !(⟨seen⟩:Array Nat).contains e.born)=⟨cT es seen⟩:=by
   rcases es with ⟨l⟩
   simp[cT]
  have hold:((⟨cT es seen⟩:Array MapEntry).filter fun e=>decide (e.born <ck))=⟨cT es seen⟩:=by
   have:(cT es seen).filter (fun e=>decide (e.born <ck))=cT es seen:=List.filter_eq_self.2 fun e he=>decide_eq_true (hb e (List.mem_filter.1 he).1)
   simp[this]
  have tA:((⟨cT es seen⟩:Array MapEntry).filter fun e=>decide (e.born≥ck))=⟨[]⟩:=by
   have:(cT es seen).filter (fun e=>decide (e.born≥ck))=[]:=List.filter_eq_nil_iff.2 fun e he=>by
    have:=hb e (List.mem_filter.1 he).1
    simp only[decide_eq_true_eq];omega
   simp[this]
  simp only[yQ,hold,tA]
  cases hl:cT es seen with
  |nil=>
   simp only[List.isEmpty_toArray,List.isEmpty_nil,if_true]
   refine Ld (by simp) fun j hj=>?_
   have hc:(#[(none:Option MapEntry)]++((⟨[]⟩:Array MapEntry)++⟨[]⟩).map some)[j]?=some none:=by
    simp at hj
    subst hj;simp
   show bR X.P ((match (#[(none:Option MapEntry)]++((⟨[]⟩:Array MapEntry)++⟨[]⟩).map some)[j]? with|some (some e)=>_|some none=>_|none=>_) >>= fun v=>pure (Next.value v)) _ _ _
   rw[hc]
   exact hQ _ _ (.inr ⟨hl,rfl,rfl⟩)
  |cons e0 l=>
   have hem:(⟨e0::l⟩:Array MapEntry).isEmpty=false:=by simp
   simp only[hem,Bool.false_eq_true,if_false]
   have Is:(#[]++((⟨e0::l⟩:Array MapEntry)++⟨[]⟩).map some:Array (Option MapEntry))=⟨(e0::l).map some⟩:=by simp
   rw[Is]
   refine Ld (by simp) fun k cU=>?_
   have cU:k <(e0::l).length:=by simpa using cU
   have hk:(⟨(e0::l).map some⟩:Array (Option MapEntry))[k]?=some (some (e0::l)[k]):=by
    rw[List.getElem?_toArray,List.getElem?_map,List.getElem?_eq_getElem cU];rfl
   show bR X.P ((match (⟨(e0::l).map some⟩:Array (Option MapEntry))[k]? with|some (some e)=>_|some none=>_|none=>_) >>= fun v=>pure (Next.value v)) _ _ _
   rw[hk]
   simp only[aa]
   have nE:(⟨X.ro,[(it,Obj.mapIter (some r) ck ⟨seen⟩ ck)]++R⟩:St).rw=[]++(it,Obj.mapIter (some r) ck ⟨seen⟩ ck)::R:=rfl
   refine eJ (o:= .mapIter (some r) ck ((⟨seen⟩:Array Nat).push (e0::l)[k].born) ck) rfl nE rfl ?_
   have hp:(⟨seen⟩:Array Nat).push (e0::l)[k].born=⟨seen++[(e0::l)[k].born]⟩:=by simp
   rw[hp]
   have:=hQ (.tuple ⟨[.bool true,(e0::l)[k].key,(e0::l)[k].val]⟩) [(it,u1 r ck (seen++[(e0::l)[k].born]))] (.inl ⟨_,by rw[hl];exact List.getElem_mem cU,rfl,rfl⟩)
   exact this
 rcases qB with ⟨e,he,rfl,rfl⟩| ⟨h1,rfl,rfl⟩
 ·have:(e.key,e.val)∈F.map (fun x=>(kv x.1,x.2)):=by
   rw[←hE.1];exact List.mem_map_of_mem (f:=fun e:MapEntry=>(e.key,e.val)) (List.mem_filter.1 he).1
  obtain⟨⟨k,v⟩,h1,h2⟩:=List.mem_map.1 this
  simp only[Prod.mk.injEq] at h2
  have:=hT k v e h1 he h2.1.symm h2.2.symm
  rwa[h2.1,h2.2] at this
 exact hF h1
theorem jmE{kv:κ→Value}{F:List (κ×Value)}{es:Array MapEntry}{e:MapEntry}{k:κ}{v:Value}(i:Nat)(hm:X.ro r=some (.map es ck))(hE:tK kv F es ck)(he:e∈cT es seen)(hk:e.key=kv k)(hvl:e.val=v)
 (hj:J X (nG [i] (.tuple ⟨[kv k,v]⟩) [(it,u1 r ck (seen++[e.born]))] o))
 (hv:fq X.n (enV X.n) o=some (.pointer (some ⟨it,0,none⟩)):=by kernel_rfl)(hB:eg [i] o=some [(it,u1 r ck (seen++[e.born]))]:=by kernel_rfl):J X o:=by
 refine jS (Φ:=fun w L'=>w= .tuple ⟨[kv k,v]⟩∧L'=[(it,u1 r ck (seen++[e.born]))]) [i] _ hv hB (fun p en hf=>?_) (fun w L' qB=>?_)
 ·unfold enV at hf
  split at hf<;>try (cases hf;done)
  rename_i x az
  refine⟨by rw[az];simp,fun R Q E hQ=>?_⟩
  simp only[execOp,az,Instr.entry,aa,aG hf]
  have hs:(⟨X.ro,[(it,u1 r ck (seen++[e.born]))]++R⟩:St).rw=[]++(it,u1 r ck (seen++[e.born]))::R:=rfl
  refine cO (o:=u1 r ck (seen++[e.born])) (.inr (by rw[hs];exact fF)) rfl rfl ?_
  have sB:(⟨seen++[e.born]⟩:Array Nat).back?=some e.born:=by simp[Array.back?]
  simp only[u1,sB,aa]
  refine cO (.inl hm) rfl rfl ?_
  have hfe:es.find? (fun x=>x.born==e.born)=some e:=by
   rcases es with ⟨l⟩
   have Zq:e∈l:=(List.mem_filter.1 he).1
   have mG:(l.map (·.born)).Nodup:=hE.2.1
   simp only[List.find?_toArray]
   clear hm hE he hj hv hB hs hQ
   induction l with
   |nil=>cases Zq
   |cons y l ih=>
    simp only[List.map_cons,List.nodup_cons,List.mem_map,not_exists,not_and] at mG
    rcases List.mem_cons.1 Zq with rfl|h
    ·simp
    have:y.born≠e.born:=fun h2=>mG.1 e h h2.symm
    rw[List.find?_cons_of_neg (by simpa using this)]
    exact ih h mG.2
  simp only[bne_self_eq_false,Bool.false_eq_true,if_false,hfe,af,aa]
  exact hQ _ _ ⟨by rw[hk,hvl],rfl⟩
 obtain⟨rfl,rfl⟩:=qB
 exact hj
end
theorem Vv{kv:κ→Value}{F:List (κ×Value)}{es:Array MapEntry}(hE:tK kv F es ck){e x:MapEntry}(he:e∈cT es seen)(hx:x∈cT es seen):x=e∨x∈cT es (seen++[e.born]):=by
 by_cases h:x.born=e.born
 ·left
  have mG:=hE.2.1
  have h1:=(List.mem_filter.1 he).1
  have h2:=(List.mem_filter.1 hx).1
  generalize es.toList=l at mG h1 h2
  induction l with
  |nil=>cases h1
  |cons y l ih=>
   simp only[List.map_cons,List.nodup_cons,List.mem_map,not_exists,not_and] at mG
   rcases List.mem_cons.1 h1 with k1|k1
   ·rcases List.mem_cons.1 h2 with k2|k2
    ·rw[k1,k2]
    exact absurd (by rw[h,k1]) (mG.1 x k2)
   rcases List.mem_cons.1 h2 with k2|k2
   ·exact absurd (by rw[←h,k2]) (mG.1 e k1)
   exact ih mG.2 k1 k2
 exact .inr (abt.2 ⟨hx,h⟩)
def msV(P:Program)(n:Nat)(p:Oper)(e:Env):Option (TypeId×List Value):=match p.op with
 | .makeSlice T x y=>match bh P T with
  |some ⟨.slice E,_,_,_⟩=>match bh P E with
   |some te=>match bA n e x,bA n e y with
    |some (.int .i64 a),some (.int .i64 b)=>bif (decide (a=2)&&decide (b=2))&&(Nat.beq te.size 1&&Nat.ble (tR P E) 65536) then some (E,te.zero) else none
    |_,_=>none
   |none=>none
  |_=>none
 |_=>none
theorem jmS{X:Cx}{z:Value}(hj:∀b,J X (nG [] (.slice (some ⟨b,0,none⟩) 2 2) [(b,.cells ⟨[z,z]⟩ E (0,0))] o))(hv:fq X.n (msV X.P X.n) o=some (E,[z]):=by kernel_rfl)(hB:eg [] o=some []:=by kernel_rfl):J X o:=by
 refine jS (Φ:=fun v L'=>∃b,v= .slice (some ⟨b,0,none⟩) 2 2∧L'=[(b,.cells ⟨[z,z]⟩ E (0,0))]) [] [] hv hB (fun p e hf=>?_) (fun v L' qB=>?_)
 ·unfold msV at hf
  split at hf<;>try (cases hf;done)
  rename_i T x y az
  split at hf<;>try (cases hf;done)
  rename_i E' _ _ _ dX
  split at hf<;>try (cases hf;done)
  rename_i te uw
  split at hf<;>try (cases hf;done)
  rename_i a b hx hy
  cases hc:((decide (a=2)&&decide (b=2))&&(Nat.beq te.size 1&&Nat.ble (tR X.P E') 65536)) with
  |false=>rw[hc] at hf;cases hf
  |true=>
   rw[hc] at hf
   simp only[cond_true,Option.some.injEq,Prod.mk.injEq] at hf
   obtain⟨rfl,hz⟩:=hf
   simp only[Bool.and_eq_true,decide_eq_true_eq,Nat.beq_eq,Nat.ble_eq] at hc
   obtain⟨⟨rfl,rfl⟩,vw,hby⟩:=hc
   obtain⟨byT,tf⟩:=av dX
   obtain⟨bG,kD⟩:=av uw
   obtain⟨i,hi,hi1,SC,hi3⟩:=kD.info
   have aoy:bG≤65536:=by simp only[tR,hi] at hby;omega
   have axB:¬((bG:Int)*2>2^48):=by omega
   have w2:IntKind.i64.wrap 2=2:=kX 2 (by omega)
   have iZ:(P7 [z] te.agg).cells=⟨[z]⟩:=by rw[←hz];exact eC kD
   have Is:((Array.range ((2:Int).toNat*1)).map fun x=>(⟨[z]⟩:Array Value)[x % (⟨[z]⟩:Array Value).size]!)=⟨[z,z]⟩:=by apply Array.ext';simp[Nat.mod_one,List.range,List.range.loop]
   refine⟨by rw[az];simp,fun R Q E hQ=>?_⟩
   simp only[execOp,az,Instr.makeSlice,aG hx,aG hy,asInt,asIntOf,aa,bk tf,af,nS hi,SC,w2,axB,show ¬((2:Int) <0) by omega,show ¬((2:Int)>2) by omega,decide_false,Bool.or_self,Bool.false_eq_true,if_false]
   refine sU ?_
   simp only[aa,cE kD,vw,show ¬((2:Int).toNat*1=0) by decide,if_false,kN kD,af,hz,iZ,Is,jU]
   intro b hb
   exact hQ _ _ ⟨b,rfl,rfl⟩
 obtain⟨b,rfl,rfl⟩:=qB
 exact hj b
def apt(body:Code):Option JS→Option (JS×Nat)
 |some ⟨.fin .normal,e,.b c oc:: .b b (.loop r)::w,kn⟩=>match r.state with
  | .ready=>some (⟨.code body [],e,.b c oc:: .b b (.loop {r with state:= .busy})::w,kn⟩,b)
  |_=>none
 |_=>none
theorem aD3{X:Cx}{bl:Nat}{body:Code}(h:J (X.re bl ro Φ) (FN (apt body o)))(h1:UP (apt body o)=some bl:=by kernel_rfl):J (X.rd bl ro Φ body) o:=by
 unfold apt at h h1
 split at h<;>try (unfold FN at h;exact h.elim)
 rename_i e c oc b r w kn
 split at h<;>try (unfold FN at h;exact h.elim)
 rename_i bX
 unfold UP at h1
 unfold FN at h
 simp only[bX,Option.some.injEq] at h1
 subst h1
 intro bZ
 have hw:=h bZ
 simp only[JP,Cx.rd,Jn,Ef]
 refine⟨[(c,oc)],r,den w,by rw[jh,jh];rfl,bX,?_⟩
 simp only[JP,jh] at hw
 exact hw
theorem aDZ{hm:P.follows .mixedOrders=true}(own:List Sg)(kn:Cells)(hk:Knows ro kn)(h:J (XM P hm f ro R) (j8 P f args own kn)):Fn (CP P) P f ⟨args⟩ ⟨ro,den own⟩ R:=by
 unfold j8 at h
 split at h<;>try exact h.elim
 rename_i fn hf
 split at h<;>try exact h.elim
 rename_i c hc
 cases hl:Nat.ble args.length fn.ntmps with
 |false=>rw[hl] at h;exact h.elim
 |true=>
  rw[hl] at h
  have u3:qT P f=fn:=by simp only[qT,hf]
  have:=h hk
  simp only[JP,XM,KQ,u3] at this
  refine MS fe hf hc ?_
  have he:=lv args fn.ntmps (Nat.le_of_ble_eq_true hl)
  rw[←he] at this
  exact this
section
variable {X:Cx} {o:Option JS}
theorem aOM{uK:List Nat}(hq:QM X R uK)(v:Value)(pm hs ps:List Nat)(Y:Cells)(fJ:Sub oA X.ro)(hR:R (.returned v) ⟨oA,Y⟩)(h0:eg pm o=some (mk uK):=by kernel_rfl)(h1:rn (iO X.P X.n X.fn hs (DY pm o))=some v:=by kernel_rfl)(h2:P2 (iO X.P X.n X.fn hs (DY pm o))=P1 (iO X.P X.n X.fn hs (DY pm o)):=by kernel_rfl)(h3:eg ps (DY pm o)=some Y:=by kernel_rfl)(h4:Az o=true:=by kernel_rfl):J X o:=by
 obtain⟨ex,e,w,kn,rfl,hex⟩:=tE h4
 simp only[DY,iO] at h1 h2 h3
 cases hr:CY X.P X.n e (dO pm 0 w) kn.c hs (qT X.P X.fn).results.toList with
 |none=>simp only[hr,rn] at h1;cases h1
 |some x=>
  rcases x with ⟨vs,q⟩
  simp only[hr,rn,Option.some.injEq,P2,P1] at h1 h2
  intro bZ
  have sA:=tW bZ hr (mI h2)
  have hp:=bM h3
  have Gp:=QW (s0:=⟨oA,Y⟩) (R:=R) hex sA h1 (ee hp fJ) hR
  have ht:bR X.P (results (qT X.P X.fn) (A X.n e X.D).tmps) ⟨X.ro,den (dO pm 0 w)⟩ (fun v s'=>∃s0,s0.le s'∧R (.returned v) s0) (fun _ _=>False):=by
   rcases hex with rfl|rfl<;>exact Gp.2
  show X.Q ex (A X.n e X.D) ⟨X.ro,den w⟩
  rw[hq.q]
  have hm:∃uK rest,(A X.n e X.D).defers=uK.map eF∧(den w).Perm (mk uK++rest)∧bR X.P (results (qT X.P X.fn) (A X.n e X.D).tmps) ⟨X.ro,rest⟩ (fun v s'=>∃s0,s0.le s'∧R (.returned v) s0) (fun _ _=>False):=⟨uK,_,hq.d,bM h0,ht⟩
  rcases hex with rfl|rfl<;>exact hm
end
attribute [irreducible] mrV nmV enV u1 msV apt
def rnM(P:Program):Sem α→List Nat→Cells→List (Nat×Nat)→Option (α×Cells×List (Nat×Nat))
 | .pure a,_,B,q=>some (a,B,q)
 | .load m a k,h::hs,B,q=>match m,a.spot,B[h]? with
  | .plain,none,some (b,.cells c _ _)=>match c[a.off]? with
   |some v=>rnM P (k v) hs B ((a.block,b)::q)
   |none=>none
  |_,_,_=>none
 | .shape r k,h::hs,B,q=>match B[h]? with
  |some (b,o)=>rnM P (k (Obj.shapeOf o)) hs B ((r,b)::q)
  |none=>none
 | .program k,hs,B,q=>rnM P (k P) hs B q
 |_,_,_,_=>none
theorem atW:∀(m:Sem α) {hs:List Nat} {B B':Cells} {q q':List (Nat×Nat)} {v:α},rnM P m hs B q=some (v,B',q')→(∀p∈q',p.1=p.2)→
 (∀p∈q,p∈q')∧B'=B∧∀(s:St) (Q:α→St→Prop) (E:Halt→St→Prop),(∀x∈B,s.has x.1 x.2)→Q v s→bR P m s Q E:=by
 intro m
 induction m with
 |pure a=>intro hs B B' q q' v h _;simp only[rnM,Option.some.injEq,Prod.mk.injEq] at h;obtain⟨rfl,rfl,rfl⟩:=h;exact⟨fun _ h=>h,rfl,fun _ _ _ _ h=>h⟩
 |load m a k ih=>
  intro hs B B' q q' v h hq
  cases hs with
  |nil=>cases h
  |cons j hs=>
   unfold rnM at h
   split at h<;>try (cases h;done)
   rename_i b c t fz PU hB
   split at h<;>try (cases h;done)
   rename_i u hu
   obtain⟨h1,h2,h3⟩:=ih _ h hq
   have Cw:a.block=b:=hq _ (h1 _ List.mem_cons_self)
   refine⟨fun p hp=>h1 p (List.mem_cons_of_mem _ hp),h2,fun s Q E hs hQ=>⟨rfl,PU,c,t,fz,u,?_,hu,h3 s Q E hs hQ⟩⟩
   rw[Cw];exact hs _ (List.mem_of_getElem? hB)
 |shape r k ih=>
  intro hs B B' q q' v h hq
  cases hs with
  |nil=>cases h
  |cons j hs=>
   simp only[rnM] at h
   split at h<;>try (cases h;done)
   rename_i b o hB
   obtain⟨h1,h2,h3⟩:=ih _ h hq
   have Cw:r=b:=hq _ (h1 _ List.mem_cons_self)
   refine⟨fun p hp=>h1 p (List.mem_cons_of_mem _ hp),h2,fun s Q E hs hQ=>⟨o,?_,h3 s Q E hs hQ⟩⟩
   rw[Cw];exact hs _ (List.mem_of_getElem? hB)
 |program k ih=>
  intro hs B B' q q' v h hq
  simp only[rnM] at h
  exact ih _ h hq
 |store=>intro hs B B' q q' v h hq;cases hs<;>cases h
 |new=>intro hs B B' q q' v h hq;cases hs<;>cases h
 |freeze=>intro hs B B' q q' v h hq;cases hs<;>cases h
 |frozen=>intro hs B B' q q' v h hq;cases hs<;>cases h
 |getObj=>intro hs B B' q q' v h hq;cases hs<;>cases h
 |setObj=>intro hs B B' q q' v h hq;cases hs<;>cases h
 |choose=>intro hs B B' q q' v h hq;cases hs<;>cases h
 |sys=>intro hs B B' q q' v h hq;cases hs<;>cases h
 |mark=>intro hs B B' q q' v h hq;cases hs<;>cases h
 |halt=>intro hs B B' q q' v h hq;cases hs<;>cases h
def aeE:Op→Option (List Operand)
 | .call ⟨.builtin _,xs,_⟩=>some xs.toList
 |op=>Hj op
theorem QS{o:Oper}{xs:List Operand}(h:aeE o.op=some xs){f g:Operand→Value}(hfg:∀x∈xs,f x=g x):execOp f o=execOp g o:=by
 unfold aeE at h
 split at h
 ·rename_i b xs at_ heq
  simp only[Option.some.injEq] at h;subst h
  have:xs.map f=xs.map g:=Array.map_congr_left fun a ha=>hfg a (by simpa using ha)
  simp only[execOp,heq,resolve,this]
 exact tY h hfg
def smV(P:Program)(n:Nat)(hs:List Nat)(B:Cells)(p:Oper)(e:Env):Option (Value×List (Nat×Nat)):=match aeE p.op with
 |some xs=>match yF n e xs with
  |some _=>match rnM P (execOp (evj n e) p) hs B [] with
   |some (.value v,_,q)=>some (v,q)
   |_=>none
  |none=>none
 |none=>none
theorem CL{γ:Type}{f:Oper→Env→Option β}{g:β→γ}:fq n (fun p e=>(f p e).map g) o=(fq n f o).map g:=by
 unfold fq
 split
 ·unfold dR
  dsimp only
  split<;>rfl
 rfl
def smA(P:Program)(n:Nat)(hs:List Nat)(B:Cells)(p:Oper)(e:Env):Option Value:=(smV P n hs B p e).map (·.1)
def smL(P:Program)(n:Nat)(hs:List Nat)(B:Cells)(p:Oper)(e:Env):Option (List Nat):=(smV P n hs B p e).map fun x=>Wv x.2
def smR(P:Program)(n:Nat)(hs:List Nat)(B:Cells)(p:Oper)(e:Env):Option (List Nat):=(smV P n hs B p e).map fun x=>UO x.2
section
variable {X:Cx} {o:Option JS}
theorem jmo(ps hs:List Nat)(B:Cells)(v:Value)(hj:J X (nG ps v B o))(hv:fq X.n (smA X.P X.n hs B) o=some v:=by kernel_rfl)(hq:fq X.n (smL X.P X.n hs B) o=fq X.n (smR X.P X.n hs B) o:=by kernel_rfl)(hB:eg ps o=some B:=by kernel_rfl):J X o:=by
 rw[show smA X.P X.n hs B=fun p e=>(smV X.P X.n hs B p e).map (·.1) from rfl,CL] at hv
 rw[show smL X.P X.n hs B=fun p e=>(smV X.P X.n hs B p e).map (fun x=>Wv x.2) from rfl,show smR X.P X.n hs B=fun p e=>(smV X.P X.n hs B p e).map (fun x=>UO x.2) from rfl,CL,CL] at hq
 cases hx:fq X.n (smV X.P X.n hs B) o with
 |none=>rw[hx] at hv;cases hv
 |some x=>
  rcases x with ⟨v',q⟩
  rw[hx] at hv hq
  simp only[Option.map_some,Option.some.injEq] at hv hq
  subst hv
  refine jS (Φ:=fun u L'=>u=v'∧L'=B) ps B hx hB (fun p e hf=>?_) (fun u L' qB=>by obtain⟨rfl,rfl⟩:=qB;exact hj)
  unfold smV at hf
  split at hf<;>try (cases hf;done)
  rename_i xs az
  split at hf<;>try (cases hf;done)
  rename_i ws Ud
  split at hf<;>try (cases hf;done)
  rename_i u B' q2 bY
  simp only[Option.some.injEq,Prod.mk.injEq] at hf
  obtain⟨rfl,rfl⟩:=hf
  refine⟨fun c hc=>?_,fun R Q E hQ=>?_⟩
  ·rw[hc] at az;cases az
  rw[QS az (O4 (f:=ev X.n e) (fun x v h=>aG h) Ud)]
  obtain⟨_,_,h3⟩:=atW _ bY (mI hq)
  exact h3 _ _ _ (fun x hx=> .inr (List.mem_append_left _ hx)) (hQ _ _ ⟨rfl,rfl⟩)
theorem IZ:∀(n t:Nat) (acc:Array Value),(Extern.BytealgMakeNoZero.digits n t acc).size=acc.size+n
 |0,_,_=>rfl
 |n+1,t,acc=>by
  simp only[Extern.BytealgMakeNoZero.digits,IZ n,Array.size_push];omega
theorem jnz{ps rs:Array TypeId}{T:TypeId}{z:List Value}(ef:EF X.P f (Extern.BytealgMakeNoZero.makeNoZero ps rs))(hT:rs[0]?=some T) (tf:TF X.P T (.slice E) sz bG z ag) (hn:n≤1000)
 (hj:∀b l,n≤l.length→J X (nG [] (.slice (some ⟨b,0,none⟩) n l.length) [(b,.cells ⟨l⟩ E (0,0))] o)) (hv:fq X.n (ajT X.n) o=some (f,[.int .i64 (n:Int)]):=by kernel_rfl) (hB:eg [] o=some []:=by kernel_rfl):J X o:=by
 obtain⟨ops,i,todo,k,e,w,kn,p,rfl,ho,hw,hc⟩:=dJ hv
 obtain⟨xs,at_,az,hx⟩:=O3 hc
 intro bZ
 rcases p with ⟨dst,op,ty,pos,dk,g⟩
 dsimp only at az;subst az
 refine afF X.hC ho hw ef hx ?_
 have eM:Extern.BytealgMakeNoZero.makeNoZero ps rs ⟨[Value.int .i64 (n:Int)]⟩=(do
  let some t:=rs[0]?|stuck "bytealg.MakeNoZero: no result type"
  let .slice elem ←underlying t|stuck "bytealg.MakeNoZero: slice type expected"
  if (n:Int) <0||(n:Int)>2^48 then runtimePanic (.error "makeslice: len out of range")
  let cap ←choose (.appendCap (n:Int).toNat 0 elem)
  askRoom cap
  let bytes ←choose (.extern "internal/bytealg.MakeNoZero.bytes" 0)
  let a ←newRow elem (Extern.BytealgMakeNoZero.digits cap bytes #[])
  pure (.slice (some a) (n:Int).toNat cap)):=rfl
 rw[eM]
 simp only[hT,bk tf]
 rw[if_neg (by simp only[Bool.or_eq_true,decide_eq_true_eq];omega)]
 refine aej rfl fun q=>?_
 refine sU ?_
 show (if (Question.extern "internal/bytealg.MakeNoZero.bytes" 0).forced=true then _ else _)
 have key:∀cap bytes,n≤cap→bR X.P (newRow E (Extern.BytealgMakeNoZero.digits cap bytes #[]) >>= fun a=>pure (Value.slice (some a) ((n:Int).toNat) cap)) ⟨X.ro,den w⟩ (fun v s'=>ae X.C X.fn X.aA ops todo (KQ X k) (A X.n (upd dst v e) X.D) s') (fun _ _=>False):=by
  intro cap bytes oU
  rw[jU]
  intro b hb
  have hl:(Extern.BytealgMakeNoZero.digits cap bytes #[]).toList.length=cap:=by
   rw[Array.length_toList,IZ];simp
  have:=hj b (Extern.BytealgMakeNoZero.digits cap bytes #[]).toList (by omega)
  rw[oE ho] at this
  have:=this bZ
  simp only[JP,gG,hl,xY] at this
  exact this
 split
 ·exact key _ _ (by show n≤(n:Int).toNat+_;rw[Int.toNat_natCast];exact Nat.le_add_right _ _)
 exact fun q2=>key _ _ (by show n≤(n:Int).toNat+_;rw[Int.toNat_natCast];exact Nat.le_add_right _ _)
def sdV(n:Nat)(p:Oper)(e:Env):Option (Addr×Nat×Nat):=match p.op with
 | .call ⟨.builtin .unsafeSliceData,xs,_⟩=>match yF n e xs.toList with
  |some [.slice (some a) l c]=>some (a,l,c)
  |_=>none
 |_=>none
theorem jsd{a:Addr}{l c:Nat}(h:c≠0)(hj:J X (nG [] (.pointer (some a)) [] o))(hv:fq X.n (sdV X.n) o=some (a,l,c):=by kernel_rfl)(hB:eg [] o=some []:=by kernel_rfl):J X o:=by
 refine jS (Φ:=fun u L'=>u= .pointer (some a)∧L'=[]) [] [] hv hB (fun p e hf=>?_) (fun u L' qB=>by obtain⟨rfl,rfl⟩:=qB;exact hj)
 unfold sdV at hf
 split at hf<;>try (cases hf;done)
 rename_i xs at_ az
 split at hf<;>try (cases hf;done)
 rename_i a' l' c' hx
 simp only[Option.some.injEq,Prod.mk.injEq] at hf
 obtain⟨rfl,rfl,rfl⟩:=hf
 refine⟨by rw[az];simp,fun R Q E hQ=>?_⟩
 have e1:Builtin.unsafeSliceData_ at_ p.type ⟨[.slice (some a') l' c']⟩=pure (.pointer (some a')):=by
  show (if c'≠0 then _ else _)=_
  rw[if_pos h]
 simp only[execOp,az,resolve,sD (show vM X.n e xs=_ from hx),af,invoke,builtin,e1]
 exact hQ _ _ ⟨rfl,rfl⟩
def usV(P:Program)(n:Nat)(p:Oper)(e:Env):Option (Nat×TypeId):=match p.op with
 | .call ⟨.builtin .unsafeString,xs,at_⟩=>match at_[0]? with
  |some pt=>match bh P pt with
   |some ⟨.pointer E,_,_,_⟩=>bif Nat.beq (P.cellsOf E) 1 then (match yF n e xs.toList with
    |some [.pointer (some ⟨b,0,none⟩),.int .i64 1]=>some (b,E)
    |_=>none) else none
   |_=>none
  |none=>none
 |_=>none
theorem jus(ps:List Nat)(x:Int)(l:List Value)(hj:∀L',J X (nG ps (.string ⟨#[x.toNat.toUInt8]⟩) L' o))(hv:fq X.n (usV X.P X.n) o=some (b,E):=by kernel_rfl)(hB:eg ps o=some [(b,.cells ⟨.int .u8 x::l⟩ E (0,0))]:=by kernel_rfl):J X o:=by
 refine jS (Φ:=fun u L'=>u= .string ⟨#[x.toNat.toUInt8]⟩) ps _ hv hB (fun p e hf=>?_) (fun u L' qB=>by subst qB;exact hj L')
 unfold usV at hf
 split at hf<;>try (cases hf;done)
 rename_i xs at_ az
 split at hf<;>try (cases hf;done)
 rename_i pt hpt
 split at hf<;>try (cases hf;done)
 rename_i E' _ _ _ dX
 cases hc:Nat.beq (X.P.cellsOf E') 1 with
 |false=>rw[hc] at hf;cases hf
 |true=>
  rw[hc] at hf
  simp only[cond_true] at hf
  split at hf<;>try (cases hf;done)
  rename_i b' hx
  simp only[Option.some.injEq,Prod.mk.injEq] at hf
  obtain⟨rfl,rfl⟩:=hf
  have hc:=Nat.eq_of_beq_eq_true hc
  obtain⟨bG,tf⟩:=av dX
  refine⟨by rw[az];simp,fun R Q Er hQ=>?_⟩
  have e1:Builtin.unsafeString_ at_ p.type ⟨[.pointer (some ⟨b',0,none⟩),.int .i64 1]⟩=(do
   let n ←asInt (.int .i64 1)
   let some pt:=at_[0]?|stuck "unsafe.String: no argument types"
   if n <0 then runtimePanic (.error "unsafe.String: len out of range")
   if n>IntKind.i64.max then unsupported (.unsafePointer "String: a length above the largest int")
   if n=0 then pure (.string .empty)
   else if ←variablesAt ⟨b',0,none⟩ (←elemOf pt) n.toNat then do
    let s ←loadBytes ⟨b',0,none⟩ .empty n.toNat
    freeze ⟨b',0,none⟩ n.toNat
    pure (.string s)
   else unsupported (.unsafePointer "String: not so many bytes at ptr")):=rfl
  simp only[execOp,az,resolve,sD (show vM X.n e xs=_ from hx),af,invoke,builtin,e1]
  simp only[asInt,asIntOf,aa,af,hpt,show ¬((1:Int) <0) by omega,show ¬((1:Int)>IntKind.i64.max) by decide,show ¬((1:Int)=0) by omega,if_false,elemOf,bk tf,variablesAt,e9]
  have hs:(⟨X.ro,[(b',Obj.cells ⟨Value.int .u8 x::l⟩ E' (0,0))]++R⟩:St).rw=[]++(b',Obj.cells ⟨Value.int .u8 x::l⟩ E' (0,0))::R:=rfl
  have hm:(⟨X.ro,[(b',Obj.cells ⟨Value.int .u8 x::l⟩ E' (0,0))]++R⟩:St).has b' (.cells ⟨Value.int .u8 x::l⟩ E' (0,0)):= .inr (by rw[hs];exact fF)
  refine⟨_,hm,?_⟩
  have aFn:=Go.Lib.liesAt_bytes (P:=X.P) hc ((Value.int .u8 x::l).length / X.P.cellsOf E') 1 (by rw[hc];simp)
  have pb:∀ {α β:Type} (a:α) (f:α→Sem β),(Sem.pure a).bind f=f a:=fun _ _=>rfl
  simp only[Obj.shapeOf,List.size_toArray,aa,af,pb]
  rw[show (1:Int).toNat=1 from rfl,aFn]
  simp only[af,aa,if_true,loadBytes]
  refine⟨rfl,rfl,_,_,_,.int .u8 x,hm,rfl,?_⟩
  simp only[aa,af]
  refine(if_neg (by omega:¬(1:Nat)=0)).mpr ?_
  refine⟨[],_,R,hs,?_⟩
  exact hQ (.string ⟨#[x.toNat.toUInt8]⟩) [(b',_)] rfl
def pnV(P:Program)(n:Nat)(p:Oper)(e:Env):Option (Nat×Nat):=match p.op with
 | .binOp .neq T x y _=>match bh P T with
  |some ⟨.pointer E,_,_,_⟩=>match bh P E with
   |some te=>bif Nat.blt 0 te.size then (match bA n e x with
    |some (.pointer (some ⟨b,0,none⟩))=>match bA n e y with
     |some (.pointer (some ⟨c,0,none⟩))=>some (b,c)
     |_=>none
    |_=>none) else none
   |none=>none
  |_=>none
 |_=>none
theorem ao8{dep:Nat}{t:TypeId}{sz2 Ce:Nat}{z z2:List Value}{ag2:Bool}(tf:TF P t (.pointer E) sz bG z ag){d:TypeDesc}(ri:TF P E d sz2 Ce z2 ag2)(hs:sz2≠0)(a:Addr):EqD P (dep+1) t (.pointer (some a)) (.pointer (some a)) true:=by
 intro α s kk Q Er
 simp only[Op.equalIn,aa,bk tf,cE ri,hs,ne_eq,not_false_eq_true,if_true,sameAddr,beq_self_eq_true,af]
theorem jpn(hj:J X (nG [] (.bool false) [] o))(hv:fq X.n (pnV X.P X.n) o=some (b,b):=by kernel_rfl)(hB:eg [] o=some []:=by kernel_rfl):J X o:=by
 refine jS (Φ:=fun u L'=>u= .bool false∧L'=[]) [] [] hv hB (fun p e hf=>?_) (fun u L' qB=>by obtain⟨rfl,rfl⟩:=qB;exact hj)
 unfold pnV at hf
 split at hf<;>try (cases hf;done)
 rename_i T x y T2 az
 split at hf<;>try (cases hf;done)
 rename_i E' _ _ _ dX
 split at hf<;>try (cases hf;done)
 rename_i te uw
 cases hc:Nat.blt 0 te.size with
 |false=>rw[hc] at hf;cases hf
 |true=>
  rw[hc] at hf
  simp only[cond_true] at hf
  split at hf<;>try (cases hf;done)
  rename_i b' hx
  split at hf<;>try (cases hf;done)
  rename_i c' hy
  simp only[Option.some.injEq,Prod.mk.injEq] at hf
  obtain⟨rfl,rfl⟩:=hf
  obtain⟨bG,tf⟩:=av dX
  obtain⟨Ce,ri⟩:=av uw
  have hc:0 <te.size:=by rwa[Nat.blt_eq] at hc
  refine⟨by rw[az];simp,fun R Q Er hQ=>?_⟩
  have hs:te.size≠0:=by omega
  simp only[execOp,az,aG hx,aG hy,eqGuard,aa,binOp,Op.equal,Op.maxDepth]
  simp only[Bool.not_true,Bool.false_eq_true,if_false,af,aa]
  rw[ao8 (dep:=9999) tf ri hs]
  exact hQ _ _ ⟨rfl,rfl⟩
end
attribute [irreducible] smV smA smL smR sdV usV pnV
section
variable {X:Cx} {o:Option JS}
def s0V(P:Program)(n:Nat)(p:Oper)(e:Env):Option (Addr×Nat×Nat):=match p.op with
 | .slice T x none (some y) none=>match bh P T with
  |some ⟨.slice E,_,_,_⟩=>match bh P E with
   |some _=>match bA n e x with
    |some (.slice (some ⟨b,0,none⟩) l c)=>match bA n e y with
     |some (.int .i64 0)=>some (⟨b,0,none⟩,l,c)
     |_=>none
    |_=>none
   |none=>none
  |_=>none
 |_=>none
theorem js0{a:Addr}{l c:Nat}(hj:J X (kP (.slice (some a) 0 c) o))(hv:dR X.n (s0V X.P X.n) o=some (a,l,c):=by kernel_rfl):J X o:=by
 refine jG hv (fun s p e ho hh hf=>?_) hj
 unfold s0V at hf
 split at hf<;>try (cases hf;done)
 rename_i T x y az
 split at hf<;>try (cases hf;done)
 rename_i E _ _ _ dX
 split at hf<;>try (cases hf;done)
 rename_i te uw
 split at hf<;>try (cases hf;done)
 rename_i b l' c' hx
 split at hf<;>try (cases hf;done)
 rename_i hy
 simp only[Option.some.injEq,Prod.mk.injEq] at hf
 obtain⟨rfl,rfl,rfl⟩:=hf
 obtain⟨bG,tf⟩:=av dX
 obtain⟨Ce,ri⟩:=av uw
 have key:∀s,Yields X.P X.n e p s (.slice (some ⟨b,0,none⟩) 0 c'):=by
  intro s s' nE f hf K E hK
  have hb:(0:Int)≤0∧(0:Int)≤(c':Int):=by omega
  simp only[execOp,az,Option.map_some,Option.map_none,Instr.sliceAt,Instr.slice,hf _ _ hx,hf _ _ hy,aa,bk tf,Instr.sliceBounds,Instr.sliceBound,asIntOf,af,hb,and_self,if_true,cE ri]
  have he:(if c'=0 then (some ⟨b,0,none⟩:Option Addr) else some ((⟨b,0,none⟩:Addr).add (0*te.size)))=some ⟨b,0,none⟩:=by
   split
   ·rfl
   simp[dZ]
  rw[show (0:Int).toNat=0 from rfl,he]
  exact hK
 exact⟨by rw[az];rfl,fun _=>key _,fun _=>key⟩
end
attribute [irreducible] s0V
section
variable {X:Cx} {o:Option JS}
def cpV(P:Program)(n:Nat)(p:Oper)(e:Env):Option Nat:=match p.op with
 | .call ⟨.builtin .cap,⟨[x]⟩,⟨[T]⟩⟩=>match bh P T with
  |some ⟨.slice _,_,_,_⟩=>match bA n e x with
   |some (.slice _ _ c)=>some c
   |_=>none
  |_=>none
 |_=>none
theorem jcp{c:Nat}(hj:J X (kP (.int .i64 (c:Int)) o))(hv:dR X.n (cpV X.P X.n) o=some c:=by kernel_rfl):J X o:=by
 refine jG hv (fun s p e ho hh hf=>?_) hj
 unfold cpV at hf
 split at hf<;>try (cases hf;done)
 rename_i x T az
 split at hf<;>try (cases hf;done)
 rename_i dX
 split at hf<;>try (cases hf;done)
 rename_i a l c' hx
 simp only[Option.some.injEq] at hf
 subst hf
 obtain⟨bG,tf⟩:=av dX
 have key:∀s,Yields X.P X.n e p s (.int .i64 (c':Int)):=by
  intro s s' nE f hf K E hK
  simp only[execOp,az,resolve,invoke,builtin,List.map_toArray,List.map_cons,List.map_nil,hf _ _ hx,af,aa,Builtin.cap_,List.getElem?_toArray,List.getElem?_cons_zero,bk tf]
  exact hK
 exact⟨by rw[az];rfl,fun _=>key _,fun _=>key⟩
end
attribute [irreducible] cpV
def tkO(is:List Nat)(o:Option JS):List Sg:=(rB is o).getD []
theorem aOU{X:Cx}{ι:Type}(is:List Nat)(p:List Nat)(Ks:List (Act→St→Prop))(ef:ι→Env)(wf:ι→List Sg)(Inv:ι→Prop)(μ:ι→Nat)(i0:ι)(h0:Inv i0)(ps:List Nat)(hb:∀i,Inv i→∀K,xD X K ef (fun i=>wf i++tkO is o) Inv μ (μ i)→∀rest,J X (stW X.P X.fn p (Ks++[K]) (ef i++rest) (wf i++tkO is o)))
 (h1:rF (nJ (ef i0)) o=some (ef i0):=by kernel_rfl)(hd:∀i,lkE (nJ (ef i)) (ef i)=some (ef i):=by intro _;kernel_rfl)(h2:rB ps o=some (wf i0++tkO is o):=by kernel_rfl)(hp:∀K,KV X.P X.fn p (Ks++[K])=lpB K (yY o):=by intro _;kernel_rfl):J X o:=
 dL p Ks ef (fun i=>wf i++tkO is o) Inv μ i0 h0 ps hb h1 hd h2 hp
attribute [irreducible] tkO
abbrev RCG(ro:Nat→Option Obj)(Φ:Value→(Nat→Option Obj)→Cells→Prop)(fr:Cells):Ending→St→Prop:=fun en s'=>∃v aC Y,en= .returned v∧Sub ro aC∧(⟨aC,Y++fr⟩:St).le s'∧Φ v aC Y
def ay8(P:Program)(f:FuncId)(args:List Value)(ro:Nat→Option Obj)(own:Cells)(Φ:Value→(Nat→Option Obj)→Cells→Prop):Prop:=
 ∀fr,Fn (C0 P) P f ⟨args⟩ ⟨ro,own++fr⟩ (RCG ro Φ fr)
theorem aD0(hm:P.follows .mixedOrders=true){Φ:Value→(Nat→Option Obj)→Cells→Prop}{L:Cells}(own:List Sg)(kn:Cells)(hk:Knows ro kn)(h:∀fr,J (XC P hm f ro (RCG ro Φ fr)) (j8 P f args (own++[.l fr]) kn))(hL:den own=L:=by rfl):ay8 P f args ro L Φ:=by
 subst hL
 intro fr
 have h:=h fr
 unfold j8 at h
 split at h<;>try exact h.elim
 rename_i fn hf
 split at h<;>try exact h.elim
 rename_i c hc
 cases hl:Nat.ble args.length fn.ntmps with
 |false=>rw[hl] at h;exact h.elim
 |true=>
  rw[hl] at h
  have u3:qT P f=fn:=by simp only[qT,hf]
  have:=h hk
  simp only[JP,XC,KQ,u3] at this
  have hd:den (own++[.l fr])=den own++fr:=by rw[ma];rfl
  rw[hd] at this
  exact MQ x6 hf hc hl this
section
variable {X:Cx} {o:Option JS}
theorem anS{vs:List Value}{own:Cells}{Φ:Value→(Nat→Option Obj)→Cells→Prop}(ps:List Nat)(hC:∀main T,X.C main T→C0 X.P main T)(hf:ay8 X.P f vs X.ro own Φ)(hj:∀v aC Y,Sub X.ro aC→Φ v aC Y→J (X.at aC) (nG ps v Y o))(h1:fq X.n (y9 X.P X.n) o=some (f,vs):=by kernel_rfl)(h2:eg ps o=some own:=by kernel_rfl):J X o:=by
 obtain⟨ops,i,todo,k,e,w,kn,p,rfl,ho,hw,hc⟩:=dJ h1
 obtain⟨ff,x,xs,at_,fi,ca,ws,az,hx,su,rfl⟩:=qX hc
 intro bZ
 rcases p with ⟨dst,op,ty,pos,dk,g⟩
 dsimp only at az;subst az
 have hp:=bM h2
 have u3:Fn X.C X.P f ⟨fi++ws++ca⟩ ⟨X.ro,den w⟩ (RCG X.ro Φ (den (dO ps 0 w))):=fun main T hT c cs k1 k2=>
  (X.hC main T hT).mono _ ⟨X.ro,own++den (dO ps 0 w)⟩ _ (ee (J:=[]) (by rw[List.append_nil];exact hp) (Sub.refl _)) (Fn.weaken hC (hf _) main T hT c cs k1 k2)
 refine uk (fi:=⟨fi⟩) (ca:=⟨ca⟩) (ws:=fi++ws++ca) X.hC ho hw hx ff su (TG fi ws ca) u3 (fun v' s' hr=>?_) (fun ch s' hr=>by obtain⟨_,_,_,e,_⟩:=hr;cases e) (fun s' hr=>by obtain⟨_,_,_,e,_⟩:=hr;cases e)
 obtain⟨v,aC,Y,hv,hs,hle,qB⟩:=hr
 cases hv
 have:=hj _ aC Y hs qB
 rw[oE ho] at this
 have:=this (bZ.up hs)
 simp only[JP,gG,JA] at this
 exact this.more X.hC hle
theorem avy(hq:QR X (RC oA fr Φ))(v:Value)(hs ps:List Nat)(Y:Cells)(fJ:Sub oA X.ro)(hR:Φ v Y)(h1:rn (iO X.P X.n X.fn hs o)=some v:=by kernel_rfl)(h2:P2 (iO X.P X.n X.fn hs o)=P1 (iO X.P X.n X.fn hs o):=by kernel_rfl)(h3:eg ps o=some (Y++fr):=by kernel_rfl)(h4:Az o=true:=by kernel_rfl):J X o:=
 aI hq v hs ps (Y++fr) fJ ⟨v,Y,rfl,St.le_refl _,hR⟩ h1 h2 h3 h4
theorem aD1(hq:QR X (RC oA fr Φ))(v:Value)(ps:List Nat)(A B:Cells)(fJ:Sub oA X.ro)(hR:Φ v (A++B))(h1:rn (iO X.P X.n X.fn [] o)=some v:=by kernel_rfl)(h2:P2 (iO X.P X.n X.fn [] o)=P1 (iO X.P X.n X.fn [] o):=by kernel_rfl)(h3:eg ps o=some (A++(B++fr)):=by kernel_rfl)(h4:Az o=true:=by kernel_rfl):J X o:=
 aI hq v [] ps ((A++B)++fr) fJ ⟨v,A++B,rfl,St.le_refl _,hR⟩ h1 h2 (by rw[h3,List.append_assoc]) h4
theorem aON{Φ:Value→(Nat→Option Obj)→Cells→Prop}(hq:QR X (RCG oA Φ fr))(v:Value)(ps:List Nat)(Y:Cells)(fJ:Sub oA X.ro)(hR:Φ v X.ro Y)(h1:rn (iO X.P X.n X.fn [] o)=some v:=by kernel_rfl)(h2:P2 (iO X.P X.n X.fn [] o)=P1 (iO X.P X.n X.fn [] o):=by kernel_rfl)(h3:eg ps o=some (Y++fr):=by kernel_rfl)(h4:Az o=true:=by kernel_rfl):J X o:=
 aI hq v [] ps (Y++fr) (Sub.refl _) ⟨v,X.ro,Y,rfl,fJ,St.le_refl _,hR⟩ h1 h2 h3 h4
end
theorem UZ{fn:Func}{c:Code}{s:St}{os:Os}{out:Array (Nat×ByteArray)}{Post:Value→World→Prop}(hf:P.funcs[f]?=some fn) (hb:fn.body=some c) (hl:Nat.ble args.length fn.ntmps=true) (hi:P.inits.idxOf? f=none)
 (SO:∀v s0 w,R (.returned v) s0→aT s0 w→w.os=os→w.output=out→Post v w) (JI:∀ch s,¬R (.panicked ch) s)
 (h:Wp (C0 P) f none c (rP P fn R) (A fn.ntmps (fU 0 args) []) s):T0 P os out Post (G (Frame.enter P f ⟨args⟩ .normal) []) s:=by
 have hT:C0 P true (T0 P os out Post):=⟨rfl,os,out,Post,rfl⟩
 have iZ:=sV P os out Post
 let b:Frame:={(default:Frame) with fn:=f,kind:= .normal,roundOf:=none}
 have iG:Frame.enter P f ⟨args⟩ .normal=aK b (A fn.ntmps (fU 0 args) []) [.code c]:=by
  rw[←lv args fn.ntmps (Nat.le_of_ble_eq_true hl)]
  simp[Frame.enter,aK,hf,hb,b]
 rw[iG]
 refine h true _ hT b [] [] rfl (by simp[b]) rfl fun e a' s' q=>?_
 have last:∀(todo:List Item),a'.defers=[]→bR P (results fn a'.tmps) s' (fun v s'=>∃s0,s0.le s'∧R (.returned v) s0) (fun _ _=>False)→T0 P os out Post (G {aK b a' todo with mode:= .returning} []) s':=by
  intro todo hd hr
  refine aaz rfl fun w pX tO FJ=>?_
  obtain⟨r,es,bY,hl⟩:=gX _ _ _ _ w #[] hr pX
  rw[Array.empty_append] at bY
  cases r with
  |ok v w'=>
   obtain⟨s2,ht,s0,hle,hu⟩:=hl
   refine⟨v,w',seen P f es,s2,?_,SO v s0 w' hu (aT.of_le hle ht.kz) (ht.os.trans tO) (ht.output.trans FJ),ht.sub (iV _ _ _)⟩
   simp only[aK,b,G,stepG,unwind,hf,hd,bY,doReturn,hi,GStep.after,Array.append_empty,Bool.not_true,Bool.false_eq_true,if_false]
  |halt _ _=>obtain⟨_,_,hu⟩:=hl;exact hu.elim
 cases e with
 |normal=>exact iZ.go rfl rfl (g':=G {aK b a' [] with mode:= .returning} []) (fun w=>by simp[G,stepG,stepG.exec,aK,b]) (last _ q.1 q.2)
 |ret=>exact fun todo=>iZ.go rfl rfl (g':=G {aK b a' (.code .ret::todo) with mode:= .returning} []) (fun w=>by simp[G,stepG,stepG.exec,aK,b]) (last _ q.1 q.2)
 |panic ch=>exact(JI _ _ q.2).elim
 |exit id=>exact q.elim
 |goto l=>exact q.elim
 |outgrown=>exact q.elim
def asw(P:Program)(f:FuncId)(args:List Value)(ro:Nat→Option Obj)(Φ:Value→Cells→Prop):Prop:=
 ∀os out (Post:Value→World→Prop),(∀v Y w,Φ v Y→aT ⟨ro,Y⟩ w→w.os=os→w.output=out→Post v w)→T0 P os out Post (G (Frame.enter P f ⟨args⟩ .normal) []) ⟨ro,[]⟩
theorem aDX(hm:P.follows .mixedOrders=true)(hi:P.inits.idxOf? f=none)(kn:Cells)(hk:Knows ro kn)(h:∀fr,J (XC P hm f ro (RC ro fr Φ)) (j8 P f args [.l fr] kn)):asw P f args ro Φ:=by
 intro os out Post SO
 have h:=h []
 unfold j8 at h
 split at h<;>try exact h.elim
 rename_i fn hf
 split at h<;>try exact h.elim
 rename_i c hc
 cases hl:Nat.ble args.length fn.ntmps with
 |false=>rw[hl] at h;exact h.elim
 |true=>
  rw[hl] at h
  have u3:qT P f=fn:=by simp only[qT,hf]
  have:=h hk
  simp only[JP,XC,KQ,u3] at this
  refine UZ hf hc hl hi (fun v s0 w hr pX tO FJ=>?_) (fun ch s hr=>?_) this
  ·obtain⟨v',Y,e,hle,qB⟩:=hr
   cases e
   refine SO _ Y w qB ?_ tO FJ
   have:=aT.of_le hle pX
   rwa[List.append_nil] at this
  obtain⟨v',Y,e,_⟩:=hr;cases e
open Go.Proofs
theorem ar:Tryz.prog.follows .mixedOrders=true:=by kernel_rfl
theorem zB:(∀a b:Bool,((a&&b)=true)=(a=true∧b=true))∧(∀a b:Bool,((a||b)=true)=(a=true∨b=true))∧(∀a b:Bool,((a&&b)=false)=(a=false∨b=false))∧(∀a b:Bool,((a||b)=false)=(a=false∧b=false))∧(∀b:Bool,((!b)=true)=(b=false))∧(∀b:Bool,((!b)=false)=(b=true))∧(∀(p:Prop) [Decidable p],(decide p=true)=p)∧(∀(p:Prop) [Decidable p],(decide p=false)=¬p)∧((¬True)=False)∧(∀p:Prop,(p∨False)=p)∧(∀p:Prop,(False∨p)=p):=
 ⟨Bool.and_eq_true,Bool.or_eq_true,by simp,by simp,by simp,by simp,by simp,by simp,by simp,by simp,by simp⟩
@[reducible] noncomputable def zT:Program:=Tryz.prog
abbrev zS:Value:= .slice none 0 0
abbrev zP(b:Nat):Value:= .pointer (some ⟨b,0,none⟩)
abbrev zI(n:Int):Value:= .int .i64 n
abbrev zU(n:Int):Value:= .int .u64 n
abbrev zO:List Value:=[zS,zS,zS,zS,zS,zS,zS,zS,zI 0,zI 0,zI 0,zS]
theorem zG(l:List α)(k:Nat)(h:k <l.length:=by omega):∃x,l[k]?=some x:=⟨_,List.getElem?_eq_getElem h⟩
theorem zJ{X:Cx}(t:Nat)(p:Prop)[Decidable p](h1:p→J X (QQ t (.bool true) o))(h2:¬p→J X (QQ t (.bool false) o))(hv:Li t o=some (.bool (decide p)):=by kernel_rfl):J X o:=
 js t (decide p) (fun h=>h1 (of_decide_eq_true h)) (fun h=>h2 (of_decide_eq_false h)) hv
theorem zD{X:Cx}(k:Nat)(h:J X (res (adv X.P X.n k [] o)))(he:lhs (adv X.P X.n k [] o)=rhs (adv X.P X.n k [] o):=by kernel_rfl):J X o:=jd k [] h he
theorem zL{l:List α}{a:α}(h:l[i]?=some a):a∈l:=List.mem_of_getElem? h
theorem zR{hm:P.follows .mixedOrders=true}(v:Value)(hs ps:List Nat)(Y:Cells)(hR:Φ v Y)(h1:rn (iO P (qT P f).ntmps f hs o)=some v:=by kernel_rfl)(h2:P2 (iO P (qT P f).ntmps f hs o)=P1 (iO P (qT P f).ntmps f hs o):=by kernel_rfl)(h3:eg ps o=some Y:=by kernel_rfl)(h4:Az o=true:=by kernel_rfl):J (X0 P hm f ro (RX ro Φ)) o:=
 aI q0 v hs ps Y (Sub.refl _) ⟨_,_,rfl,rfl,hR⟩ h1 h2 h3 h4
theorem zX{hm:P.follows .mixedOrders=true}(v:Value)(hR:Φ v [])(h1:rn (iO P (qT P f).ntmps f [] o)=some v:=by kernel_rfl)(h2:P2 (iO P (qT P f).ntmps f [] o)=P1 (iO P (qT P f).ntmps f [] o):=by kernel_rfl)(h3:eg [] o=some []:=by kernel_rfl)(h4:Az o=true:=by kernel_rfl):J (X0 P hm f ro (RX ro Φ)) o:=
 zR v [] [] [] hR h1 h2 h3 h4
theorem zE(h:J (X0 Tryz.prog ar f ro (RX ro Φ)) (j8 Tryz.prog f args [] [])):dQ Tryz.prog f args ro [] Φ:=bw ar [] [] aU h
theorem zC{L:Cells}(own:List Sg)(h:J (X0 Tryz.prog ar f ro (RX ro Φ)) (j8 Tryz.prog f args own []))(hL:den own=L:=by rfl):dQ Tryz.prog f args ro L Φ:=bw ar own [] aU h hL
@[reducible] def zN(a k:Nat):List Nat:=List.range' a k
theorem zM:(∀l m:List α,(l++m).length=l.length+m.length)∧(∀(a:α) (l:List α),(a::l).length=l.length+1)∧([]:List α).length=0:=⟨fun _ _=>List.length_append,fun _ _=>rfl,rfl⟩
theorem zK{X:Cx}{m:Nat}{e:Env}{o':Option JS}(h:∀o',tF 0 [] o'=tF m [] o→rF (nJ e) o'=some e→J X o')(h1:tF 0 [] o'=tF m [] o:=by kernel_rfl)(h2:rF (nJ e) o'=some e:=by kernel_rfl):J X o':=h o' h1 h2
def gT(n lo hi:Int):Bool:=decide (lo≤n)&&decide (n≤hi)
theorem dW{n:Int}:dv zT 44 [zI n,zI lo,zI hi] ro (.bool (gT n lo hi)):=by
 refine zE<|zD 10<|jj 4 [(6,.bool false),(14,.bool ((decide (lo≤n))&&(decide (n≤hi))))] (fun gN=>?_) (fun hj=>?_)
 rotate_left
 refine js 10 (decide (lo≤n)) (fun h1=>?_) (fun h1=>?_)
 ·
  have fH:=h1
  replace fH:=of_decide_eq_true fH
  refine zD 4<|jw 14 (.bool ((decide (lo≤n))&&(decide (n≤hi)))) (w:= .bool (decide (n≤hi))) (by rw[h1]<;>rfl) ?_
  exact zK hj
 ·
  have fH:=h1
  replace fH:=of_decide_eq_false fH
  refine zD 4<|jw 14 (.bool ((decide (lo≤n))&&(decide (n≤hi)))) (w:= .bool false) (by rw[h1]<;>rfl) ?_
  exact zK hj
 refine zD 3<|zX (.bool ((decide (lo≤n))&&(decide (n≤hi)))) ⟨rfl,rfl⟩
theorem jQ{n:Int}:dv zT 211 [zI n,zI lo,zI hi] ro (.bool (gT n lo hi)):=by
 refine zE<|zD 10<|jj 4 [(6,.bool false),(14,.bool ((decide (lo≤n))&&(decide (n≤hi))))] (fun gN=>?_) (fun hj=>?_)
 rotate_left
 refine js 10 (decide (lo≤n)) (fun h1=>?_) (fun h1=>?_)
 ·
  have fH:=h1
  replace fH:=of_decide_eq_true fH
  refine zD 4<|jw 14 (.bool ((decide (lo≤n))&&(decide (n≤hi)))) (w:= .bool (decide (n≤hi))) (by rw[h1]<;>rfl) ?_
  exact zK hj
 ·
  have fH:=h1
  replace fH:=of_decide_eq_false fH
  refine zD 4<|jw 14 (.bool ((decide (lo≤n))&&(decide (n≤hi)))) (w:= .bool false) (by rw[h1]<;>rfl) ?_
  exact zK hj
 refine zD 3<|zX (.bool ((decide (lo≤n))&&(decide (n≤hi)))) ⟨rfl,rfl⟩
def bJ(p:α→Bool):List α→Nat→Int
 | [],_=> -1
 |x::l,k=>bif p x then k else bJ p l (k+1)
theorem fG{l:List α}{x:α}(h:l[k]?=some x):l.drop k=x::l.drop (k+1):=by
 obtain⟨h1,h2⟩:=List.getElem?_eq_some_iff.1 h
 rw[List.drop_eq_getElem_cons h1,h2]
theorem eO{l:List α}(h:¬k <l.length):l.drop k=[]:=List.drop_eq_nil_of_le (by omega)
theorem gJ{p:α→Bool}{l:List α}{x:α}(h:l[k]?=some x):bJ p (l.drop k) k=bif p x then (k:Int) else bJ p (l.drop (k+1)) (k+1):=by rw[fG h];rfl
theorem nu{p:α→Bool}{l:List α}(h:¬k <l.length):bJ p (l.drop k) k= -1:=by rw[eO h];rfl
abbrev cD(x:Int):List Value:=[zI x]
theorem avs{v:Value}{n:Int}(hl:a8 ro v 1 cD xs)(hn:xs.length≤1000000):dv zT 24 [v,zI n] ro (zI (bJ (fun y=>decide (y=n)) xs 0)):=by
 obtain⟨dB,mP,mO,dz,rfl,qd,gY,jV⟩:=hl
 refine zE<|zD 10<|dL [1,0,1,0,0] [] (fun(zz:Nat)=>[(0,.slice dB xs.length dz),(1,zI n),(5,zI (zz:Int))]) (fun zz=>[]) (fun zz=>zz≤xs.length∧bJ (fun y=>decide (y=n)) xs 0=bJ (fun y=>decide (y=n)) (xs.drop zz) zz) (fun zz=>xs.length-zz) 0 ⟨by omega,rfl⟩ [] ?_
 rintro k hI K1 bE rest
 refine zD 8<|zJ 9 ((k:Int) <(xs.length:Int)) (fun h1=>?_) fun h1=>?_
 ·
  refine zD 8 ?_
  obtain⟨eE,dN⟩:=zG xs k
  refine fL dz 1 gY dN<|jl 0 (jV _ _ dN)<|zD 3<|zJ 17 (eE=n) (fun h2=>?_) fun h2=>?_
  ·
   refine zD 7<|zX (zI (k:Int)) ⟨by rw[hI.2,gJ dN];simp[*],rfl⟩
  refine zD 4<|ja ((k:Int)+1) (by omega)<|zD 2<|bF bE (k+1) ⟨by omega,by rw[hI.2,gJ dN];simp[*]⟩ (by omega) [] (Sub.refl _)
 refine zD 7<|zX (zI (-1)) ⟨by rw[hI.2,nu (by omega)],rfl⟩
def cK(n:Nat):List Int:=(List.range n).map fun(i:Nat)=>(i:Int)
theorem wq(n:Nat):cK (n+1)=cK n++[(n:Int)]:=by simp[cK,List.range_succ]
theorem iC(n:Nat):(cK n).length=n:=by simp[cK]
def bP(v:Value)(xs:List Int)(d:Nat)(X:Cells):Prop:=∃(k:Nat) (cY:Int),k≤xs.length∧X=[(d,.cells ⟨[v,zI k,zU cY]⟩ 70 (0,0))]
def Dn(ro:Nat→Option Obj)(v:Value)(xs:List Int):Prop:=a8 ro v 1 cD xs∧xs.length≤4611686018427387904
theorem Dn.up{v:Value}(h:Dn ro v xs)(hs:Sub ro aC):Dn aC v xs:=⟨h.1.up hs,h.2⟩
theorem toNonzero{n:Int}(h0:¬n <1)(h1:n≤1000000):IntKind.u64.wrap (n+1)≠0:=by
 rw[sN .u64 rfl _ (by omega) (by simp[IntKind.bits];omega)];omega
theorem toRange{n w:Int}(h0:¬n <1)(h1:n≤1000000)(hw:0≤w):0≤IntKind.i64.wrap (Int.tmod (aV .u64 w 16) (IntKind.u64.wrap (n+1)))∧IntKind.i64.wrap (Int.tmod (aV .u64 w 16) (IntKind.u64.wrap (n+1)))≤n:=by
 have e:IntKind.u64.wrap (n+1)=n+1:=sN .u64 rfl _ (by omega) (by simp[IntKind.bits];omega)
 rw[e]
 have h2:0≤aV .u64 w 16:=Int.fdiv_nonneg hw (by decide)
 have h3:=Int.tmod_nonneg (n+1) h2
 have h4:=Int.tmod_lt_of_pos (aV .u64 w 16) (show 0 <n+1 by omega)
 rw[kX _ (by omega)]
 omega
theorem aT9(hN:Dn ro vd xs)(hD:bP vd xs d X):dQ zT 42 [zP d] ro X (fun r Y=>∃w:Int,r= zU w∧0≤w∧w <18446744073709551616∧bP vd xs d Y):=by
 obtain⟨k,cY,hk,rfl⟩:=hD
 obtain⟨hl,hn⟩:=hN
 obtain⟨dB,mP,mO,dz,rfl,qd,gY,jV⟩:=hl
 refine zC [.b d (.cells ⟨[.slice dB xs.length dz,zI (k:Int),zU cY]⟩ 70 (0,0))]<|jd 19 [0,0]<|aS 13 fun E5 E9 Cy=>jd 1 [0]<|fR Cy []<|jd 16 [0,0]<|aS 13 fun A1 Bn Av=>jd 1 [0]<|fR Av []<|jd 16 [0,0]<|aS 13 fun rZ r8 qM=>jd 1 [0]<|fR qM []<|jd 15 [0,0]<|zJ 52 ((k:Int) <(xs.length:Int)) (fun h4=>?_) fun h4=>?_
 ·
  refine jd 16 [0,0,0] ?_
  obtain⟨x66,HR⟩:=zG xs k
  refine fL dz 1 gY HR<|jl 0 (jV _ _ HR)<|zD 5<|aS 20 fun sL sR qL=>jd 1 [0]<|fR qL []<|jd 6 [0]<|ja ((k:Int)+1) (by omega)<|jd 30 [0,0]<|zR (zU (dj .u64 (IntKind.u64.wrap ((dj .u64 (IntKind.u64.wrap ((dj .u64 (dj .u64 (dj .u64 cY (dM .u64 cY 13)) (aV .u64 (dj .u64 cY (dM .u64 cY 13)) 7)) (dM .u64 (dj .u64 (dj .u64 cY (dM .u64 cY 13)) (aV .u64 (dj .u64 cY (dM .u64 cY 13)) 7)) 17))+(IntKind.u64.wrap ((IntKind.u64.wrap x66)*13787848793156543929)))) (aV .u64 (IntKind.u64.wrap ((dj .u64 (dj .u64 (dj .u64 cY (dM .u64 cY 13)) (aV .u64 (dj .u64 cY (dM .u64 cY 13)) 7)) (dM .u64 (dj .u64 (dj .u64 cY (dM .u64 cY 13)) (aV .u64 (dj .u64 cY (dM .u64 cY 13)) 7)) 17))+(IntKind.u64.wrap ((IntKind.u64.wrap x66)*13787848793156543929)))) 30))*10723151780598845931)) (aV .u64 (IntKind.u64.wrap ((dj .u64 (IntKind.u64.wrap ((dj .u64 (dj .u64 (dj .u64 cY (dM .u64 cY 13)) (aV .u64 (dj .u64 cY (dM .u64 cY 13)) 7)) (dM .u64 (dj .u64 (dj .u64 cY (dM .u64 cY 13)) (aV .u64 (dj .u64 cY (dM .u64 cY 13)) 7)) 17))+(IntKind.u64.wrap ((IntKind.u64.wrap x66)*13787848793156543929)))) (aV .u64 (IntKind.u64.wrap ((dj .u64 (dj .u64 (dj .u64 cY (dM .u64 cY 13)) (aV .u64 (dj .u64 cY (dM .u64 cY 13)) 7)) (dM .u64 (dj .u64 (dj .u64 cY (dM .u64 cY 13)) (aV .u64 (dj .u64 cY (dM .u64 cY 13)) 7)) 17))+(IntKind.u64.wrap ((IntKind.u64.wrap x66)*13787848793156543929)))) 30))*10723151780598845931)) 31))) [] [0] [(d,.cells ⟨[.slice dB xs.length dz,zI ((k:Int)+1),zU (IntKind.u64.wrap ((dj .u64 (dj .u64 (dj .u64 cY (dM .u64 cY 13)) (aV .u64 (dj .u64 cY (dM .u64 cY 13)) 7)) (dM .u64 (dj .u64 (dj .u64 cY (dM .u64 cY 13)) (aV .u64 (dj .u64 cY (dM .u64 cY 13)) 7)) 17))+(IntKind.u64.wrap ((IntKind.u64.wrap x66)*13787848793156543929))))]⟩ 70 (0,0))] ⟨_,rfl,(uu _ _).1,(uu _ _).2,k+1,_,(by omega),rfl⟩
 refine jd 28 [0]<|zR (zU (dj .u64 (IntKind.u64.wrap ((dj .u64 (dj .u64 (dj .u64 (dj .u64 cY (dM .u64 cY 13)) (aV .u64 (dj .u64 cY (dM .u64 cY 13)) 7)) (dM .u64 (dj .u64 (dj .u64 cY (dM .u64 cY 13)) (aV .u64 (dj .u64 cY (dM .u64 cY 13)) 7)) 17)) (aV .u64 (dj .u64 (dj .u64 (dj .u64 cY (dM .u64 cY 13)) (aV .u64 (dj .u64 cY (dM .u64 cY 13)) 7)) (dM .u64 (dj .u64 (dj .u64 cY (dM .u64 cY 13)) (aV .u64 (dj .u64 cY (dM .u64 cY 13)) 7)) 17)) 30))*10723151780598845931)) (aV .u64 (IntKind.u64.wrap ((dj .u64 (dj .u64 (dj .u64 (dj .u64 cY (dM .u64 cY 13)) (aV .u64 (dj .u64 cY (dM .u64 cY 13)) 7)) (dM .u64 (dj .u64 (dj .u64 cY (dM .u64 cY 13)) (aV .u64 (dj .u64 cY (dM .u64 cY 13)) 7)) 17)) (aV .u64 (dj .u64 (dj .u64 (dj .u64 cY (dM .u64 cY 13)) (aV .u64 (dj .u64 cY (dM .u64 cY 13)) 7)) (dM .u64 (dj .u64 (dj .u64 cY (dM .u64 cY 13)) (aV .u64 (dj .u64 cY (dM .u64 cY 13)) 7)) 17)) 30))*10723151780598845931)) 31))) [] [0] [(d,.cells ⟨[.slice dB xs.length dz,zI (k:Int),zU (dj .u64 (dj .u64 (dj .u64 cY (dM .u64 cY 13)) (aV .u64 (dj .u64 cY (dM .u64 cY 13)) 7)) (dM .u64 (dj .u64 (dj .u64 cY (dM .u64 cY 13)) (aV .u64 (dj .u64 cY (dM .u64 cY 13)) 7)) 17))]⟩ 70 (0,0))] ⟨_,rfl,(uu _ _).1,(uu _ _).2,k,_,(by omega),rfl⟩
theorem FR{n:Int}(hN:Dn ro vd xs)(hD:bP vd xs d X)(hn:n≤1000000):dQ zT 10 [zP d,zI n] ro X (fun r Y=>∃w:Int,r= zI w∧0≤w∧(w≤n∨w=0)∧bP vd xs d Y):=by
 refine zC [.l X]<|zD 10<|zJ 6 (n <1) (fun h1=>?_) fun h1=>?_
 ·
  refine zD 6<|zR (zI 0) [] [0] X ⟨_,rfl,(by omega),(by omega),hD⟩
 refine zD 5<|jc [0] (aT9 hN hD) ?_
 rintro _ X8 ⟨w8,rfl,hw8,hx8,hD8⟩
 refine zD 2<|ja (n+1) (by omega)<|zD 1<|jrm (k:= .u64) (a:=(aV .u64 w8 16)) (b:=(IntKind.u64.wrap (n+1))) 68 (toNonzero h1 hn)<|zD 4<|zR (zI (IntKind.i64.wrap (Int.tmod (aV .u64 w8 16) (IntKind.u64.wrap (n+1))))) [] [0] X8 ⟨_,rfl,(toRange h1 hn hw8).1,.inl (toRange h1 hn hw8).2,hD8⟩
theorem B8(hN:Dn ro vd xs)(hD:bP vd xs d X)(BP: -1000≤lo∧lo≤1000)(hhi: -1000≤hi∧hi≤1000):dQ zT 32 [zP d,zI lo,zI hi] ro X (fun r Y=>∃w:Int,r= zI w∧lo≤w∧(w≤hi∨w=lo)∧bP vd xs d Y):=by
 refine zC [.l X]<|zD 10<|ja (hi-lo) (by omega)<|jc (vs:=[zP d,zI (hi-lo)]) [0] (FR hN hD (by omega)) ?_
 rintro _ X12 ⟨w12,rfl,bcv,qE,aTA⟩
 refine ja (lo+w12) (by omega)<|zD 3<|zR (zI (lo+w12)) [] [0] X12 ⟨_,rfl,(by omega),(by omega),aTA⟩
theorem tG{n:Int}(hN:Dn ro vd xs)(hD:bP vd xs d X)(hn:0≤n∧n≤1000):dQ zT 27 [zP d,zI n] ro X (fun r Y=>∃w:Bool,r= .bool w∧bP vd xs d Y):=by
 refine zC [.l X]<|zD 8<|ja (n-1) (by omega)<|jc (vs:=[zP d,zI (n-1)]) [0] (FR hN hD (by omega)) ?_
 rintro _ X8 ⟨w8,rfl,hw8,hx8,hD8⟩
 refine zD 4<|zR (.bool (decide (w8=0))) [] [0] X8 ⟨_,rfl,hD8⟩
def bs(l:List Nat):ByteArray:=⟨(l.map UInt8.ofNat).toArray⟩
abbrev p6(x:ByteArray):List Value:=[.string x]
structure cR where
 f:ByteArray
 t:ByteArray
abbrev fW(x:cR):List Value:=[.string x.f,.string x.t]
structure aB where
 name:ByteArray
 st:Int
 no:Int
 head:Int
 bold:Bool
abbrev di(x:aB):List Value:=[.string x.name,.int .i64 x.st,.int .i64 x.no,.int .i64 x.head,.bool x.bold]
structure bK where
 a:Int
 b:Int
 same:Bool
variable {fs:List bK}
abbrev kJ(x:bK):List Value:=[.int .i64 x.a,.int .i64 x.b,.bool x.same]
structure bO where
 name:ByteArray
 under:Int
variable {cs:List bO}
abbrev lJ(x:bO):List Value:=[.string x.name,.int .i64 x.under]
structure aL where
 k:Int
 st:Int
 ot:Int
 fn:Int
 fl:Int
 tn:Int
 tl:Int
abbrev iu(x:aL):List Value:=[.int .i64 x.k,.int .i64 x.st,.int .i64 x.ot,.int .i64 x.fn,.int .i64 x.fl,.int .i64 x.tn,.int .i64 x.tl]
theorem nX{ps:List α}{x y:α}(h1:ps[i]?=some x) (h2:ps[k]?=some y):((ps.set i y).set k x).Perm ps:=by
 obtain⟨a,rfl⟩:=List.getElem?_eq_some_iff.1 h1
 obtain⟨b,rfl⟩:=List.getElem?_eq_some_iff.1 h2
 exact List.set_set_perm a b
theorem akf(hN:Dn ro vd xs)(hD:bP vd xs d X)(hm:a8 ro vm 1 cD ys)(hy:0 <ys.length∧ys.length≤1000):dQ zT 33 [zP d,vm] ro X (fun r Y=>∃w:Int,r= zI w∧w∈ys∧bP vd xs d Y):=by
 obtain⟨qma,qmb,qmo,qmc,rfl,qmk,qmh,qml⟩:=hm
 refine zC [.l X]<|zD 10<|ja ((ys.length:Int)-1) (by omega)<|jc (vs:=[zP d,zI ((ys.length:Int)-1)]) [0] (FR hN hD (by omega)) ?_
 rintro _ X10 ⟨w10,rfl,ahd,sr,Wn⟩
 obtain⟨x11,VK⟩:=zG ys (w10.toNat)
 refine PT w10 qmc 1 qmh VK (by omega)<|jl 0 (qml _ _ VK)<|zD 3<|zR (zI x11) [] [0] X10 ⟨_,rfl,zL VK,Wn⟩
theorem ZN{ys:List ByteArray}(hN:Dn ro vd xs)(hD:bP vd xs d X)(hm:a8 ro vm 1 p6 ys)(hy:0 <ys.length∧ys.length≤1000):dQ zT 71 [zP d,vm] ro X (fun r Y=>∃w:ByteArray,r= .string w∧w∈ys∧bP vd xs d Y):=by
 obtain⟨qma,qmb,qmo,qmc,rfl,qmk,qmh,qml⟩:=hm
 refine zC [.l X]<|zD 10<|ja ((ys.length:Int)-1) (by omega)<|jc (vs:=[zP d,zI ((ys.length:Int)-1)]) [0] (FR hN hD (by omega)) ?_
 rintro _ X10 ⟨w10,rfl,ahd,sr,Wn⟩
 obtain⟨x11,VK⟩:=zG ys (w10.toNat)
 refine PT w10 qmc 1 qmh VK (by omega)<|jl 0 (qml _ _ VK)<|zD 3<|zR (.string x11) [] [0] X10 ⟨_,rfl,zL VK,Wn⟩
theorem ake(hN:Dn ro vd xs)(hD:bP vd xs d X)(hn:n≤100):dQ zT 13 [zP d,zI (n:Int)] ro X (fun r Y=>∃(ps:List Int) (L X':Cells),aw r 1 3 cD ps L∧ps.Perm (cK n)∧Y=L++X'∧bP vd xs d X'):=by
 refine zC [.l X]<|zD 14<|nB<|dL [1,1,0,1,0,0] [] (fun(zz:Nat×Value×Cells)=>[(0,zP d),(1,zI (n:Int)),(4,zS),(5,zz.2.1),(6,zI (zz.1:Int))]) (fun zz=>[.l zz.2.2,.l X]) (fun zz=>zz.1≤n∧aw zz.2.1 1 3 cD (cK zz.1) zz.2.2) (fun zz=>n-zz.1) (⟨0,zS,[]⟩) ⟨by omega,aw.nil _ _ _⟩ [0,1] ?_
 rintro⟨k,v,L⟩ hI K1 bE rest
 dsimp only at hI
 refine zD 7<|zJ 12 ((k:Int) <(n:Int)) (fun h1=>?_) fun h1=>?_
 ·
  refine zD 7<|jn fun b17=>gL (sz:=1) (ps:=cK k) (qs:=[(k:Int)]) (enc:=cD) (w:= .slice (some ⟨b17,0,none⟩) 1 1) [1] [0] [(b17,.cells ⟨([(k:Int)].map cD).flatten⟩ 3 (0,0))] (hI.2) (fun s _ hZ=>bN [(k:Int)] (hZ _ (.head _)) (by intro p hp;rfl)) (fun p _=>ah rfl) (by simp[cK];omega) (fun v18 L18 ahJ=>?_)
  obtain⟨UA,Qi,Im⟩:=ahJ.form
  subst Im
  refine zD 4<|ja ((k:Int)+1) (by omega)<|zD 2<|bF bE (⟨k+1,(.slice UA ((cK k++[(k:Int)])).length Qi),L18⟩) ⟨by omega,by rw[wq];exact ahJ⟩ (by omega) [0,2] (Sub.refl _)
 refine zD 6<|ja ((n:Int)-1) (by omega)<|zD 3<|dL [1,1,1,0,1,0,0] [] (fun(zz:Int×Value×Cells×(List Int)×Cells)=>[(0,zP d),(4,zS),(5,zz.2.1),(7,zI zz.1)]) (fun zz=>[.l zz.2.2.1,.l zz.2.2.2.2]) (fun zz=>(-1≤zz.1∧zz.1 <n)∧aw zz.2.1 1 3 cD zz.2.2.2.1 zz.2.2.1∧zz.2.2.2.1.Perm (cK n)∧bP vd xs d zz.2.2.2.2) (fun zz=>zz.1.toNat) (⟨(n:Int)-1,v,L,cK k,X⟩) ⟨by omega,hI.2,(by rw[show k=n by omega]),hD⟩ [0,1] ?_
 rintro⟨j,v,L,ps,X⟩ OS K2 lG rest
 dsimp only at OS
 have hlen:ps.length=n:=by rw[OS.2.2.1.length_eq,iC]
 refine zD 6<|zJ 22 (j>0) (fun h2=>?_) fun h2=>?_
 ·
  refine zD 8<|jc (vs:=[zP d,zI j]) [1] (FR hN OS.2.2.2 (by omega)) ?_
  rintro _ X27 ⟨w27,rfl,bcr,Kr,aTv⟩
  refine zD 6 ?_
  obtain⟨oH,jL⟩:=zG ps (j.toNat)
  refine qA j 1 OS.2.1 jL (by omega) fun b30 V9=>oQ 0 [1] L (fun s _ hZ=>cJ OS.2.1 V9 hZ jL)<|zD 8 ?_
  obtain⟨x36,Ag⟩:=zG ps (w27.toNat)
  refine qA w27 1 OS.2.1 Ag (by omega) fun sE axG=>oQ 0 [1] L (fun s _ hZ=>cJ OS.2.1 axG hZ Ag) ?_
  obtain⟨x38,Oo⟩:=zG ps (j.toNat)
  refine qA j 1 OS.2.1 Oo (by omega) fun b38 aSp=>R6 1 0 [zI x36] x36 OS.2.1 aSp Oo rfl rfl (Nat.le_of_ble_eq_true rfl) fun L3 ho4=>zD 5 ?_
  obtain⟨x42,VI⟩:=zG ((ps.set j.toNat x36)) (w27.toNat) (by first|omega| (simp only[List.length_set,zM];omega))
  refine qA w27 1 ho4 VI (by omega) fun b42 aSn=>R6 0 0 [zI oH] oH ho4 aSn VI rfl rfl (Nat.le_of_ble_eq_true rfl) fun L5 ho6=>zD 3<|ja (j-1) (by omega)<|zD 2<|bF lG (⟨j-1,v,L5,((ps.set j.toNat x36).set w27.toNat oH),X27⟩) ⟨by omega,ho6,(nX jL Ag).trans OS.2.2.1,aTv⟩ (by omega) [0,1] (Sub.refl _)
 refine zD 8<|zR (v) [] [0,1] (L++X) ⟨_,_,_,OS.2.1,OS.2.2.1,rfl,OS.2.2.2⟩
theorem Td(p:Int→Bool)(k:Nat):(cK (k+1)).filter p=bif p (k:Int) then (cK k).filter p++[(k:Int)] else (cK k).filter p:=by
 rw[wq,List.filter_append]
 cases h:p (k:Int)<;>simp[h]
theorem nV{x:Int}(h:x∈cK n):0≤x∧x <n:=by
 simp only[cK,List.mem_map,List.mem_range] at h
 obtain⟨i,h1,rfl⟩:=h
 omega
theorem sb(n:Nat):(cK n).Pairwise (· < ·):=by
 simp only[cK]
 rw[List.pairwise_map]
 exact List.pairwise_lt_range.imp fun h=>by omega
theorem AB(x:Int)(l:List Int)(k:Nat):x∈l→(k:Int)≤bJ (fun y=>decide (y=x)) l k∧∃i,bJ (fun y=>decide (y=x)) l k=k+i∧l[i.toNat]?=some x∧0≤i:=by
 induction l generalizing k with
 |nil=>intro h;cases h
 |cons y l ih=>
  intro h
  by_cases e:y=x
  ·subst e
   simp only[bJ,decide_true,cond_true]
   exact⟨Int.le_refl _,0,by simp,by simp,by simp⟩
  simp only[bJ,e,decide_false,cond_false]
  obtain⟨h1,i,h2,h3,h4⟩:=ih (k+1) ((List.mem_cons.1 h).resolve_left fun e2=>e e2.symm)
  refine⟨by omega,i+1,by rw[h2];omega,?_,by omega⟩
  rw[show (i+1).toNat=i.toNat+1 by omega]
  simpa using h3
theorem afi{q:List Int}(hq:q.Perm (cK n)):((cK n).filter fun i=>decide (bJ (fun y=>decide (y=i)) q 0 <many)).length≤many.toNat:=by
 have jM:∀x,x∈cK n→x∈q:=fun x hx=>hq.mem_iff.2 hx
 have h1:(((cK n).filter fun i=>decide (bJ (fun y=>decide (y=i)) q 0 <many)).map fun i=>bJ (fun y=>decide (y=i)) q 0).Nodup:=by
  rw[List.nodup_iff_pairwise_ne,List.pairwise_map]
  refine((sb n).filter _).imp_of_mem fun {a b} ha hb Cw e=>?_
  obtain⟨_,i,e1,g1,_⟩:=AB a q 0 (jM a ((List.mem_filter.1 ha).1))
  obtain⟨_,j,e2,g2,_⟩:=AB b q 0 (jM b ((List.mem_filter.1 hb).1))
  have:i=j:=by omega
  subst this
  rw[g1] at g2
  cases g2
  omega
 have h2:=xO (l₂:=cK many.toNat) h1 fun x hx=>by
  obtain⟨i,h3,rfl⟩:=List.mem_map.1 hx
  obtain⟨h4,h5⟩:=List.mem_filter.1 h3
  have h6:=of_decide_eq_true h5
  obtain⟨h7,_⟩:=AB i q 0 (jM i h4)
  simp only[cK,List.mem_map,List.mem_range]
  exact⟨(bJ (fun y=>decide (y=i)) q 0).toNat,by omega,by omega⟩
 simpa [iC] using h2
theorem KG(p:α→Bool)(l:List α):(l.filter p).length≤l.length:=List.length_filter_le p l
theorem aHG(hN:Dn ro vd xs)(hD:bP vd xs d X)(hn:n≤100):dQ zT 69 [zP d,zI (n:Int),zI many] ro X (fun r Y=>∃(ps:List Int) (L X':Cells),aw r 1 3 cD ps L∧ps.length≤many.toNat∧ps.Pairwise (· < ·)∧(∀x∈ps,0≤x∧x <n)∧Y=L++X'∧bP vd xs d X'):=by
 refine zC [.l X]<|zD 8<|jc (vs:=[zP d,zI (n:Int)]) [0] (ake hN hD (by first|omega|decide)) ?_
 rintro v13 _ ⟨aa6,L13,X13,VW,abO,rfl,aoS⟩
 refine jg 0 [.l L13,.l X13]<|zD 12<|nB<|dL [1,1,1,0,1,0,0] [] (fun(zz:Nat×Value×Cells)=>[(1,zI (n:Int)),(2,zI many),(6,zS),(7,v13),(8,zz.2.1),(9,zI (zz.1:Int))]) (fun zz=>[.l zz.2.2,.l L13,.l X13]) (fun zz=>zz.1≤n∧aw zz.2.1 1 3 cD ((cK zz.1).filter (fun i=>decide (bJ (fun y=>decide (y=i)) aa6 0 <many))) zz.2.2) (fun zz=>n-zz.1) (⟨0,zS,[]⟩) ⟨by omega,aw.nil _ _ _⟩ [0,1,2] ?_
 rintro⟨k,v,L⟩ hI K1 bE rest
 dsimp only at hI
 have hlen:aa6.length=n:=by rw[abO.length_eq,iC]
 have vx:=KG (fun i=>decide (bJ (fun y=>decide (y=i)) aa6 0 <many)) (cK k)
 rw[iC] at vx
 refine zD 7<|zJ 16 ((k:Int) <(n:Int)) (fun h1=>?_) fun h1=>?_
 ·
  refine zD 8<|jp (vs:=[v13,zI (k:Int)]) [1] L13 (fun aF hs hZ=>avs (VW.jC hZ) (by first|omega| (simp only[List.length_set,zM];omega))) ?_
  refine zD 8<|zJ 24 ((bJ (fun y=>decide (y=(k:Int))) aa6 0) <many) (fun h2=>?_) fun h2=>?_
  ·
   refine zD 4<|jn fun b27=>gL (sz:=1) (ps:=((cK k).filter (fun i=>decide (bJ (fun y=>decide (y=i)) aa6 0 <many)))) (qs:=[(k:Int)]) (enc:=cD) (w:= .slice (some ⟨b27,0,none⟩) 1 1) [1] [0] [(b27,.cells ⟨([(k:Int)].map cD).flatten⟩ 3 (0,0))] (hI.2) (fun s _ hZ=>bN [(k:Int)] (hZ _ (.head _)) (by intro p hp;rfl)) (fun p _=>ah rfl) (by simp only[List.length_cons,List.length_nil];omega) (fun v28 L28 ahF=>?_)
   obtain⟨aLU,aLt,abZ⟩:=ahF.form
   subst abZ
   refine zD 4<|ja ((k:Int)+1) (by omega)<|zD 2<|bF bE (⟨k+1,(.slice aLU ((((cK k).filter (fun i=>decide (bJ (fun y=>decide (y=i)) aa6 0 <many)))++[(k:Int)])).length aLt),L28⟩) ⟨by omega,by rw[Td,decide_eq_true h2];exact ahF⟩ (by omega) [0,2,3] (Sub.refl _)
  refine zD 4<|ja ((k:Int)+1) (by omega)<|zD 2<|bF bE (⟨k+1,v,L⟩) ⟨by omega,by rw[Td,decide_eq_false h2];exact hI.2⟩ (by omega) [0,1,2] (Sub.refl _)
 refine zD 8<|zR (v) [] [0,2] (L++X13) ⟨_,_,_,hI.2,by rw[show k=n by omega];exact afi abO,(sb k).filter _,fun x hx=>by have:=nV ((List.mem_filter.1 hx).1);omega,rfl,aoS⟩
def ar5:List ByteArray:=[bs [101],bs [121],bs [115,104],bs [97],bs [110,110],bs [116,104],bs [109]]
def toW:List ByteArray:=[bs [],bs [105],bs [115],bs [116],bs [97,101],bs [106],bs [110]]
def Jx(r:cR):Prop:=r.f∈ar5∧r.t∈toW
def j5(c:aL):Prop:=c∈[(⟨1,0,0,0,0,0,0⟩:aL),⟨2,0,0,0,0,0,0⟩,⟨1,1,0,0,0,0,0⟩,⟨2,1,0,0,0,0,0⟩,⟨4,1,0,0,0,0,0⟩]
theorem ny{p:α→Prop}{l:List α}{x:α}(h:∀y∈l,p y)(hx:p x):∀y∈l++[x],p y:=fun y hy=>by
 rcases List.mem_append.1 hy with h1|h1
 ·exact h y h1
 rw[List.mem_singleton] at h1;subst h1;exact hx
theorem ayC(hN:Dn ro vd xs)(hD:bP vd xs d X)(hn:0≤many∧many≤100):dQ zT 29 [zP d,zI many] ro X (fun r Y=>∃(ps:List cR) (L X':Cells),aw r 2 84 fW ps L∧ps.length≤many∧(∀r∈ps,Jx r)∧Y=L++X'∧bP vd xs d X'):=by
 refine zC [.l X]<|zD 13<|jc (vs:=[zP d,zI many]) [0] (FR hN hD (by omega)) ?_
 rintro _ X10 ⟨w10,rfl,ahd,sr,Wn⟩
 refine zD 3<|nB<|dL [1,1,0,1,0,0] [] (fun(zz:Int×Value×Cells×(List cR)×Cells)=>[(0,zP d),(4,zS),(5,zz.2.1),(6,zI zz.1)]) (fun zz=>[.l zz.2.2.1,.l zz.2.2.2.2]) (fun zz=>(0≤zz.1∧zz.2.2.2.1.length+zz.1≤many)∧aw zz.2.1 2 84 fW zz.2.2.2.1 zz.2.2.1∧(∀r∈zz.2.2.2.1,Jx r)∧bP vd xs d zz.2.2.2.2) (fun zz=>zz.1.toNat) (⟨w10,zS,[],[],X10⟩) ⟨by simp only[List.length_nil];omega,aw.nil _ _ _,(fun _ h=>by cases h),Wn⟩ [0,1] ?_
 rintro⟨j,v,L,ps,X⟩ hI K1 bE rest
 dsimp only at hI
 refine zD 6<|zJ 12 (j>0) (fun h1=>?_) fun h1=>?_
 ·
  refine zD 7<|jn fun b16=>jcL (vs:=[zP d,.slice (some ⟨b16,0,none⟩) 7 7]) [2] [0] [(b16,.cells ⟨([(bs [101]),(bs [121]),(bs [115,104]),(bs [97]),(bs [110,110]),(bs [116,104]),(bs [109])].map p6).flatten⟩ 9 (0,0))] (fun aF hs hZ=>ZN (hN.up hs) hI.2.2.2 (bV [(bs [101]),(bs [121]),(bs [115,104]),(bs [97]),(bs [110,110]),(bs [116,104]),(bs [109])] hZ.head (by intro p hp;rfl)) (by decide)) ?_
  rintro _ X17 ⟨w17,rfl,aPx,aTz⟩
  refine zD 1<|jn fun Jq=>jcL (vs:=[zP d,.slice (some ⟨Jq,0,none⟩) 7 7]) [1] [0] [(Jq,.cells ⟨([(bs []),(bs [105]),(bs [115]),(bs [116]),(bs [97,101]),(bs [106]),(bs [110])].map p6).flatten⟩ 9 (0,0))] (fun aF hs hZ=>ZN (hN.up hs) aTz (bV [(bs []),(bs [105]),(bs [115]),(bs [116]),(bs [97,101]),(bs [106]),(bs [110])] hZ.head (by intro p hp;rfl)) (by decide)) ?_
  rintro _ X20 ⟨w20,rfl,avX,ai4⟩
  refine zD 1<|jn fun b7=>jd 5 [0,0]<|jn fun Jp=>gL (sz:=2) (ps:=ps) (qs:=[(⟨w17,w20⟩:cR)]) (enc:=fW) (w:= .slice (some ⟨Jp,0,none⟩) 1 1) [5] [0] [(Jp,.cells ⟨([(⟨w17,w20⟩:cR)].map fW).flatten⟩ 84 (0,0))] (hI.2.1) (fun s _ hZ=>bN [(⟨w17,w20⟩:cR)] (hZ _ (.head _)) (by intro p hp;rfl)) (fun p _=>ah rfl) (by simp<;>omega) (fun v25 L25 ahH=>?_)
  obtain⟨aLW,aLv,aRG⟩:=ahH.form
  subst aRG
  refine zD 4<|ja (j-1) (by omega)<|zD 2<|bF bE (⟨j-1,(.slice aLW ((ps++[(⟨w17,w20⟩:cR)])).length aLv),L25,(ps++[(⟨w17,w20⟩:cR)]),X20⟩) ⟨by simp only[zM];omega,ahH,ny hI.2.2.1 ⟨aPx,avX⟩,ai4⟩ (by omega) [0,3] (Sub.refl _)
 refine zD 8<|zR (v) [] [0,1] (L++X) ⟨_,_,_,hI.2.1,(by omega),hI.2.2.1,rfl,hI.2.2.2⟩
theorem aHE(hN:Dn ro vd xs)(hD:bP vd xs d X):dQ zT 28 [zP d] ro X (fun r Y=>∃w:aL,r= .agg ⟨iu w⟩∧j5 w∧bP vd xs d Y):=by
 refine zC [.l X]<|zD 2<|jn fun b2=>zD 8<|jn fun b9=>zD 9<|jc (vs:=[zP d,zI 4]) [2] (FR hN hD (by omega)) ?_
 rintro _ X15 ⟨w15,rfl,aPy,ag6,ax5⟩
 obtain⟨Cr,nj⟩:=zG ([(⟨1,0,0,0,0,0,0⟩:aL),(⟨2,0,0,0,0,0,0⟩:aL),(⟨1,1,0,0,0,0,0⟩:aL),(⟨2,1,0,0,0,0,0⟩:aL),(⟨4,1,0,0,0,0,0⟩:aL)]:List _) (w15.toNat) (show w15.toNat <5 from by omega)
 refine PT (a:=(some ⟨b9,0,none⟩)) (b:=b9) (off:=0) w15 5 7 (fun _ _=>rfl) nj (by omega)<|oQ (m:=7) 0 [1] [(b9,.cells ⟨([(⟨1,0,0,0,0,0,0⟩:aL),(⟨2,0,0,0,0,0,0⟩:aL),(⟨1,1,0,0,0,0,0⟩:aL),(⟨2,1,0,0,0,0,0⟩:aL),(⟨4,1,0,0,0,0,0⟩:aL)].map iu).flatten⟩ 77 (0,0))] (fun s _ hZ=>xL (hZ _ (.head _)) (by intro p hp;rfl) nj) ?_
 refine jd 3 [2]<|zR (.agg ⟨[zI Cr.k,zI Cr.st,zI Cr.ot,zI Cr.fn,zI Cr.fl,zI Cr.tn,zI Cr.tl]⟩) [2] [0] X15 ⟨Cr,rfl,zL nj,ax5⟩
def HI(b:UInt8):Bool:=Nat.ble 97 b.toNat&&Nat.ble b.toNat 122
def Hq(b:UInt8):Bool:=Nat.ble 65 b.toNat&&(Nat.ble b.toNat 90&& !(Nat.beq b.toNat 72||Nat.beq b.toNat 81||Nat.beq b.toNat 87))
def Script(w:ByteArray):Prop:=(∀b∈w.data.toList,HI b=true)∨(∀b∈w.data.toList,Hq b=true)
def aam(w:ByteArray):Prop:=(0 <w.size∧w.size≤7)∧Script w
def PC(w:ByteArray):Prop:=(1≤w.size∧w.size≤3)∧Script w
theorem aeC{w:ByteArray}(h:(w.data.toList.all HI||w.data.toList.all Hq)=true)(h1:(Nat.blt 0 w.size&&Nat.ble w.size 7)=true):aam w:=by
 simp only[Bool.or_eq_true,List.all_eq_true] at h
 simp only[Bool.and_eq_true,Nat.blt_eq,Nat.ble_eq] at h1
 exact⟨h1,h⟩
theorem aBL{w:ByteArray}(h:w∈[bs [97,101,115],bs [115,104,101,116,97],bs [115,109,105,116,121,104,97],bs [99,104,106,97],bs [97,110,110,101]]):aam w:=by
 simp only[List.mem_cons,List.not_mem_nil,or_false] at h
 rcases h with rfl|rfl|rfl|rfl|rfl<;>exact aeC (by decide) (by decide)
theorem aBK{w:ByteArray}(h:w∈[bs [65,69,83],bs [88,69,84,65],bs [83,77,73,84,89,65],bs [67,74,65,88],bs [65,78,78,69]]):aam w:=by
 simp only[List.mem_cons,List.not_mem_nil,or_false] at h
 rcases h with rfl|rfl|rfl|rfl|rfl<;>exact aeC (by decide) (by decide)
def nT:List ByteArray:=[bs [102,111,111,100],bs [98,114,101,97,100],bs [99,108,111,116,104],bs [104,97,116,115],bs [119,111,111,100],bs [105,114,111,110],bs [98,101,101,114],bs [105,110],bs [115,101,101]]
def pR:List ByteArray:=[bs [98,97,107,101,114],bs [98,97,107,101,114,115],bs [98,111,110,110,101,116,115],bs [98,114,101,119,101,114],bs [98,114,117,115,104,101,115],bs [98,117,116,99,104,101,114],bs [99,97,110,100,108,101,115],bs [99,111,111,112,101,114],bs [99,111,111,112,101,114,115],bs [99,117,116,108,101,114],bs [104,97,116,116,101,114],bs [104,111,115,105,101,114],bs [109,101,114,99,101,114],bs [109,105,108,108,105,110,101,114],bs [116,97,105,108,111,114],bs [116,97,110,110,101,114]]
theorem Ho{T:TypeId}{enc:α→List Value}(ps:List α)(hn:ps.length=n)(hl:∀p∈ps,(enc p).length=sz):aw (.slice (some ⟨b,0,none⟩) n n) sz T enc ps [(b,.cells ⟨(ps.map enc).flatten⟩ T (0,0))]:=by
 subst hn
 exact .inr ⟨b,_,ps.length,rfl,rfl,kR ps hl,Nat.le_refl _,hl,by rw[←kR ps hl,List.take_length]⟩
theorem UH{s t w:ByteArray}(h:∀b∈s.data.toList,b∈w.data.toList)(k:∀b∈t.data.toList,b∈w.data.toList):∀b∈(s++t).data.toList,b∈w.data.toList:=fun b hb=>by
 rw[ByteArray.data_append,Array.toList_append,List.mem_append] at hb
 exact hb.elim (h b) (k b)
theorem QG{w:ByteArray}(i j:Nat):∀b∈(w.extract i j).data.toList,b∈w.data.toList:=fun b hb=>by
 rw[ByteArray.data_extract,Array.toList_extract] at hb
 exact List.mem_of_mem_drop (List.mem_of_mem_take (by simpa [List.extract] using hb))
theorem UU{s w:ByteArray}(h:∀b∈s.data.toList,b∈w.data.toList)(hw:Script w):Script s:=hw.imp (fun k b hb=>k b (h b hb)) (fun k b hb=>k b (h b hb))
theorem ZO(hN:Dn ro vd xs)(hD:bP vd xs d X):dQ zT 31 [zP d,zI 3] ro X (fun r Y=>∃w:ByteArray,r= .string w∧PC w∧bP vd xs d Y):=by
 refine zC [.l X]<|zD 7<|jn fun lV=>jcL (vs:=[zP d,.slice (some ⟨lV,0,none⟩) 5 5]) [1] [0] [(lV,.cells ⟨([(bs [97,101,115]),(bs [115,104,101,116,97]),(bs [115,109,105,116,121,104,97]),(bs [99,104,106,97]),(bs [97,110,110,101])].map p6).flatten⟩ 9 (0,0))] (fun aF hs hZ=>ZN (hN.up hs) hD (bV [(bs [97,101,115]),(bs [115,104,101,116,97]),(bs [115,109,105,116,121,104,97]),(bs [99,104,106,97]),(bs [97,110,110,101])] hZ.head (by intro p hp;rfl)) (by decide)) ?_
 rintro _ X11 ⟨w11,rfl,aPA,aTB⟩
 refine zD 6<|jc (vs:=[zP d,zI 3]) [0] (tG hN aTB (by omega)) ?_
 rintro _ X13 ⟨w13,rfl,aoS⟩
 refine zD 1<|EL [1,1,1] [] (fun(zz:ByteArray×Cells)=>[(0,zP d),(1,zI 3),(4,.string (bs [])),(5,.string zz.1)]) (fun zz=>[.l zz.2]) (fun zz=>aam zz.1∧bP vd xs d zz.2) ?_ (fun K1 bE=>?_)
 ·
  rintro⟨w,X⟩ hJ rest
  dsimp only at hJ
  obtain⟨⟨Y3,hw7⟩,su⟩:=hJ.1
  refine zD 9<|jmn (k:= .i64) (a:=3) (b:=6)<|jc (vs:=[zP d,zI 1,zI (min 3 6)]) [0] (B8 hN hJ.2 (by omega) (by omega)) ?_
  rintro _ X20 ⟨w20,rfl,avX,Ot,ai4⟩
  refine zD 3<|dL [1,1,1,1,0,1,0,0] [] (fun(zz:Int×ByteArray×Cells)=>[(0,zP d),(4,.string (bs [])),(5,.string w),(6,.string zz.2.1),(7,zI zz.1)]) (fun zz=>[.l zz.2.2]) (fun zz=>(0≤zz.1∧zz.2.1.size+zz.1=w20)∧(∀b∈zz.2.1.data.toList,b∈w.data.toList)∧bP vd xs d zz.2.2) (fun zz=>zz.1.toNat) (⟨w20,bs [],X20⟩) ⟨⟨by omega,by simp[bs,ByteArray.size]⟩,(fun _ h=>by simp[bs] at h),ai4⟩ [0] ?_
  rintro⟨j,t,Z⟩ hI K2 lG rest
  dsimp only at hI
  refine zD 6<|zJ 22 (j>0) (fun h1=>?_) fun h1=>?_
  ·
   refine zD 9<|ja ((w.size:Int)-1) (by omega)<|jc (vs:=[zP d,zI ((w.size:Int)-1)]) [0] (FR hN hI.2.2 (by omega)) ?_
   rintro _ X29 ⟨w29,rfl,bcq,BK,aTu⟩
   refine zD 7<|ja (w29+1) (by omega)<|jtB (b:=w) (lo:=w29) (hi:=(w29+1)) (by omega)<|jsa (a:=t) (b:=(w.extract w29.toNat (w29+1).toNat)) 9 (by rw[ByteArray.size_extract];omega) ?_
   refine zD 4<|ja (j-1) (by omega)<|zD 2<|bF lG (⟨j-1,(t++(w.extract w29.toNat (w29+1).toNat)),X29⟩) ⟨⟨by omega,by rw[ByteArray.size_append,ByteArray.size_extract];omega⟩,UH hI.2.1 (QG _ _),aTu⟩ (by omega) [0] (Sub.refl _)
  refine zD 8<|zR (.string t) [] [0] Z ⟨_,rfl,⟨by omega,UU hI.2.1 su⟩,hI.2.2⟩
 refine js 13 w13 (fun h2=>?_) (fun h2=>?_)
 ·
  subst h2
  refine zD 3<|jn fun Jr=>jcL (vs:=[zP d,.slice (some ⟨Jr,0,none⟩) 5 5]) [1] [0] [(Jr,.cells ⟨([(bs [65,69,83]),(bs [88,69,84,65]),(bs [83,77,73,84,89,65]),(bs [67,74,65,88]),(bs [65,78,78,69])].map p6).flatten⟩ 9 (0,0))] (fun aF hs hZ=>ZN (hN.up hs) aoS (bV [(bs [65,69,83]),(bs [88,69,84,65]),(bs [83,77,73,84,89,65]),(bs [67,74,65,88]),(bs [65,78,78,69])] hZ.head (by intro p hp;rfl)) (by decide)) ?_
  rintro _ X16 ⟨w16,rfl,aEj,ai5⟩
  refine zD 2<|bF bE ⟨w16,X16⟩ ⟨aBK aEj,ai5⟩ Nat.zero_lt_one [0] (Sub.refl _)
 subst h2
 refine zD 2<|bF bE ⟨w11,X13⟩ ⟨aBL aPA,aoS⟩ Nat.zero_lt_one [0] (Sub.refl _)
theorem agx:dQ zT 68 [] ro [] (fun r Y=>∃L,aw r 1 9 p6 nT L∧Y=L):=by
 refine zE<|zD 6<|jn fun b1=>zD 3<|zR (.slice (some ⟨b1,0,none⟩) 9 9) [] [0] [(b1,.cells ⟨[.string (bs [102,111,111,100]),.string (bs [98,114,101,97,100]),.string (bs [99,108,111,116,104]),.string (bs [104,97,116,115]),.string (bs [119,111,111,100]),.string (bs [105,114,111,110]),.string (bs [98,101,101,114]),.string (bs [105,110]),.string (bs [115,101,101])]⟩ 9 (0,0))] ⟨_,Ho nT rfl (by intro p hp;rfl),rfl⟩
theorem agN:dQ zT 70 [] ro [] (fun r Y=>∃L,aw r 1 9 p6 pR L∧Y=L):=by
 refine zE<|zD 6<|jn fun b1=>zD 3<|zR (.slice (some ⟨b1,0,none⟩) 16 16) [] [0] [(b1,.cells ⟨[.string (bs [98,97,107,101,114]),.string (bs [98,97,107,101,114,115]),.string (bs [98,111,110,110,101,116,115]),.string (bs [98,114,101,119,101,114]),.string (bs [98,114,117,115,104,101,115]),.string (bs [98,117,116,99,104,101,114]),.string (bs [99,97,110,100,108,101,115]),.string (bs [99,111,111,112,101,114]),.string (bs [99,111,111,112,101,114,115]),.string (bs [99,117,116,108,101,114]),.string (bs [104,97,116,116,101,114]),.string (bs [104,111,115,105,101,114]),.string (bs [109,101,114,99,101,114]),.string (bs [109,105,108,108,105,110,101,114]),.string (bs [116,97,105,108,111,114]),.string (bs [116,97,110,110,101,114])]⟩ 9 (0,0))] ⟨_,Ho pR rfl (by intro p hp;rfl),rfl⟩
structure aY where
 word:ByteArray
 cls:Int
 lE:Int
 dt:Value
abbrev jZ(x:aY):List Value:=[.string x.word,zI x.cls,zI x.lE,x.dt]
def Xm(hs:List aY)(i:Int):Prop:=0≤i∧∃h,hs[i.toNat]?=some h∧0≤h.cls
theorem W8{p:α→Bool}{l:List α}{x:α}(h:l[k]?=some x):(l.drop k).any p=(p x||(l.drop (k+1)).any p):=by rw[fG h];rfl
theorem apE{p:α→Bool}{l:List α}(h:¬k <l.length):(l.drop k).any p=false:=by rw[eO h];rfl
def oJ(fs:List bK)(a b:Int):Bool:=fs.any fun y=>decide (y.a=a)&&decide (y.b=b)
theorem xZ{hs:List aY}(hN:Dn ro vd xs)(hD:bP vd xs d X)(hh:a8 ro vh 4 jZ hs)(hn:hs.length≤100):dQ zT 30 [zP d,.agg ⟨[zI 2,zI 0,zI 0,vc,vh,zS,zS]⟩,.string nm] ro X (fun r Y=>∃w:aB,r= .agg ⟨di w⟩∧w.name=nm∧(0≤w.st∧w.st≤1)∧(w.head= -1∨Xm hs w.head)∧bP vd xs d Y):=by
 obtain⟨dC,s9,s8,de,rfl,uX,pJ,pH⟩:=hh
 refine zC [.l X]<|zD 2<|jn fun b4=>jn fun b6=>jd 8 [1]<|jc (vs:=[zP d,zI 1]) [2] (FR hN hD (by omega)) ?_
 rintro _ X15 ⟨w15,rfl,aPy,ag6,ax5⟩
 refine zD 2<|jc (vs:=[zP d,zI 1,zI 3]) [0] (B8 hN ax5 (by omega) (by omega)) ?_
 rintro _ X18 ⟨w18,rfl,bcu,bci,OT⟩
 refine zD 1<|jc (vs:=[zP d,zI 1,zI 3]) [0] (B8 hN OT (by omega) (by omega)) ?_
 rintro _ X20 ⟨w20,rfl,avX,Ot,ai4⟩
 refine zD 1<|jc (vs:=[zP d,zI 1,zI 40]) [0] (B8 hN ai4 (by omega) (by omega)) ?_
 rintro _ X22 ⟨w22,rfl,bct,uv,aTx⟩
 refine jn fun b23=>jcL (vs:=[zP d,.slice (some ⟨b23,0,none⟩) 3 3]) [1] [0] [(b23,.cells ⟨([w18,w20,w22].map cD).flatten⟩ 3 (0,0))] (fun aF hs hZ=>akf (hN.up hs) aTx (bV [w18,w20,w22] hZ.head (by intro p hp;rfl)) (by simp)) ?_
 rintro _ X24 ⟨w24,rfl,bcs,aTw⟩
 refine zD 1<|jc (vs:=[zP d,zI 4]) [0] (tG hN aTw (by omega)) ?_
 rintro _ X26 ⟨w26,rfl,aGD⟩
 refine zD 1<|jn fun b7=>jd 12 [0]<|nB<|dL [1,1,1,0,1,0,0] [] (fun(zz:Nat×Value×Cells×(List Int))=>[(0,zP d),(4,zP b4),(6,zP b6),(7,zP b7),(8,zz.2.1),(9,zI (zz.1:Int))]) (fun zz=>[.l zz.2.2.1,.l X26,.b b7 (.cells ⟨[.string nm,zI w15,zI w24,zI (-1),.bool w26]⟩ 44 (0,0)),.b b6 (.cells ⟨[.string ByteArray.empty,zI 0,zI 0,zI 0,.bool false]⟩ 44 (0,0)),.b b4 (.cells ⟨[zI 2,zI 0,zI 0,vc,.slice dC hs.length de,zS,zS]⟩ 86 (0,0))]) (fun zz=>(zz.1≤hs.length∧zz.2.2.2.length≤zz.1)∧aw zz.2.1 1 3 cD zz.2.2.2 zz.2.2.1∧∀i∈zz.2.2.2,Xm hs i) (fun zz=>hs.length-zz.1) (⟨0,zS,[],[]⟩) ⟨⟨by omega,by simp⟩,aw.nil _ _ _,(fun _ h=>by cases h)⟩ [0,2,1,4,5] ?_
 rintro⟨k,v,L,ps⟩ hI K1 bE rest
 dsimp only at hI
 refine jd 10 [4]<|zJ 33 ((k:Int) <(hs.length:Int)) (fun h1=>?_) fun h1=>?_
 ·
  refine jd 10 [4] ?_
  obtain⟨x40,Sb⟩:=zG hs k
  refine fL de 4 pJ Sb<|zD 1<|jl 1 (pH _ _ Sb)<|zD 2<|zJ 43 (x40.cls≥0) (fun h2=>?_) fun h2=>?_
  ·
   refine zD 4<|jn fun b46=>gL (sz:=1) (ps:=ps) (qs:=[(k:Int)]) (enc:=cD) (w:= .slice (some ⟨b46,0,none⟩) 1 1) [1] [0] [(b46,.cells ⟨([(k:Int)].map cD).flatten⟩ 3 (0,0))] (hI.2.1) (fun s _ hZ=>bN [(k:Int)] (hZ _ (.head _)) (by intro p hp;rfl)) (fun p _=>ah rfl) (by simp<;>omega) (fun v47 L47 ahC=>?_)
   obtain⟨aLP,aLo,aRB⟩:=ahC.form
   subst aRB
   refine zD 4<|ja ((k:Int)+1) (by omega)<|zD 2<|bF bE (⟨k+1,(.slice aLP ((ps++[(k:Int)])).length aLo),L47,(ps++[(k:Int)])⟩) ⟨by simp only[zM];omega,ahC,ny hI.2.2 ⟨by omega,x40,Sb,by assumption⟩⟩ (by omega) [0,2,3,4,5] (Sub.refl _)
  refine zD 4<|ja ((k:Int)+1) (by omega)<|zD 2<|bF bE (⟨k+1,v,L,ps⟩) ⟨by dsimp only;omega,hI.2⟩ (by omega) (zN 0 5) (Sub.refl _)
 refine zD 6<|Fy hI.2.1<|zD 2<|js 51 (decide ((ps.length:Int)>0)) (fun h3=>?_) (fun h3=>?_)
 ·
  have wR:=h3
  replace wR:=of_decide_eq_true wR
  refine zD 1<|jc (vs:=[zP d,zI 4]) [1] (tG hN aGD (by omega)) ?_
  rintro _ X53 ⟨w53,rfl,aoR⟩
  refine zD 3<|js 55 (!w53) (fun h4=>?_) (fun h4=>?_)
  ·
   try simp only[zB] at h4
   refine zD 5<|Fy hI.2.1<|ja ((ps.length:Int)-1) (by omega)<|jc (vs:=[zP d,zI ((ps.length:Int)-1)]) [0] (FR hN aoR (by omega)) ?_
   rintro _ X61 ⟨w61,rfl,bcn,bch,aTo⟩
   obtain⟨x62,avP⟩:=zG ps (w61.toNat)
   refine qA w61 1 hI.2.1 avP (by omega) fun b62 aSi=>oQ 0 [1] L (fun s _ hZ=>cJ hI.2.1 aSi hZ avP)<|jd 9 [2,2,3]<|zR (.agg ⟨[.string nm,zI w15,zI w24,zI x62,.bool w26]⟩) [3] [0] X61 ⟨⟨_,_,_,_,_⟩,rfl,rfl,(by dsimp only;omega),.inr (hI.2.2 _ (zL avP)),aTo⟩
  try simp only[zB] at h4
  refine jd 8 [2,3]<|zR (.agg ⟨[.string nm,zI w15,zI w24,zI (-1),.bool w26]⟩) [3] [0] X53 ⟨⟨_,_,_,_,_⟩,rfl,rfl,(by dsimp only;omega),.inl rfl,aoR⟩
 have wR:=h3
 replace wR:=of_decide_eq_false wR
 refine jd 13 [2,3]<|zR (.agg ⟨[.string nm,zI w15,zI w24,zI (-1),.bool w26]⟩) [3] [1] X26 ⟨⟨_,_,_,_,_⟩,rfl,rfl,(by dsimp only;omega),.inl rfl,aGD⟩
theorem agK(hm:a8 ro vm 1 cD ys)(hn:ys.length≤1000):dQ zT 90 [vm] ro [] (fun r Y=>∃L,aw r 1 3 cD ys L∧Y=L):=by
 obtain⟨qma,qmb,qmo,qmc,rfl,qmk,qmh,qml⟩:=hm
 refine zE<|zD 6<|jn fun b3=>zD 1<|gL (sz:=1) (ps:=[]) (qs:=ys) (enc:=cD) (w:= .slice qma ys.length qmc) [0] [] [] (aO (b:=b3) (T:=3)) (fun s he _=>⟨qma,qmb,qmo,qmc,rfl,qmh,fun i p hp=>(qml i p hp).ext he⟩) (fun p _=>ah rfl) (by simp<;>omega) (fun v5 L5 H5=>?_)
 rw[List.nil_append] at H5
 obtain⟨va5,vc5,he5⟩:=H5.form
 subst he5
 refine zD 3<|zR ((.slice va5 (ys).length vc5)) [] [0] L5 ⟨_,H5,rfl⟩
theorem iF{ys:List aB}(hm:a8 ro vm 5 di ys)(hn:ys.length≤1000):dQ zT 49 [vm] ro [] (fun r Y=>∃L,aw r 5 44 di ys L∧Y=L):=by
 obtain⟨qma,qmb,qmo,qmc,rfl,qmk,qmh,qml⟩:=hm
 refine zE<|zD 6<|jn fun b3=>zD 1<|gL (sz:=5) (ps:=[]) (qs:=ys) (enc:=di) (w:= .slice qma ys.length qmc) [0] [] [] (aO (b:=b3) (T:=44)) (fun s he _=>⟨qma,qmb,qmo,qmc,rfl,qmh,fun i p hp=>(qml i p hp).ext he⟩) (fun p _=>ah rfl) (by simp<;>omega) (fun v5 L5 H5=>?_)
 rw[List.nil_append] at H5
 obtain⟨va5,vc5,he5⟩:=H5.form
 subst he5
 refine zD 3<|zR ((.slice va5 (ys).length vc5)) [] [0] L5 ⟨_,H5,rfl⟩
theorem aq8{vf:Value}{x:bK}(hf:a8 ro vf 3 kJ fs)(hn:fs.length≤1000):dv zT 19 [.agg ⟨[s0,s1,s2,t0,t1,ru,vb,va,zI gone,zI new,zI ab,vf]⟩,.agg ⟨[zI x.a,zI x.b,.bool x.same]⟩] ro (.bool (oJ fs x.a x.b)):=by
 obtain⟨fp,td,tb,eS,rfl,wu,pM,pK⟩:=hf
 refine zE<|zD 2<|jn fun b2=>jn fun b3=>zD 8<|dL [1,0,1,0,0] [] (fun(zz:Nat)=>[(2,zP b2),(3,zP b3),(5,zI (zz:Int))]) (fun zz=>[.b b3 (.cells ⟨[zI x.a,zI x.b,.bool x.same]⟩ 54 (0,0)),.b b2 (.cells ⟨[s0,s1,s2,t0,t1,ru,vb,va,zI gone,zI new,zI ab,.slice fp fs.length eS]⟩ 40 (0,0))]) (fun zz=>zz≤fs.length∧oJ fs x.a x.b=(fs.drop zz).any (fun y=>decide (y.a=x.a)&&decide (y.b=x.b))) (fun zz=>fs.length-zz) 0 ⟨by omega,rfl⟩ [0,1] ?_
 rintro k hI K1 bE rest
 refine jd 9 [1]<|zJ 10 ((k:Int) <(fs.length:Int)) (fun h1=>?_) fun h1=>?_
 ·
  refine jd 9 [1] ?_
  obtain⟨Cr,nj⟩:=zG fs k
  refine fL eS 3 pM nj<|zD 1<|jl 0 (pK _ _ nj)<|jd 4 [0]<|js 9 (decide (Cr.a=x.a)) (fun h2=>?_) (fun h2=>?_)
  ·
   have kI:=h2
   replace kI:=of_decide_eq_true kI
   refine jd 3 [1] ?_
   obtain⟨Ul,abJ⟩:=zG fs k
   refine fL eS 3 pM abJ<|zD 1<|jl 1 (pK _ _ abJ)<|jd 5 [0]<|zJ 32 (Ul.b=x.b) (fun h3=>?_) fun h3=>?_
   ·
    refine zD 6<|zX (.bool true) ⟨by rw[hI.2,W8 nj];simp_all,rfl⟩
   refine zD 4<|ja ((k:Int)+1) (by omega)<|zD 2<|bF bE (k+1) ⟨by omega,by rw[hI.2,W8 nj];simp_all⟩ (by omega) [0,1] (Sub.refl _)
  have kI:=h2
  replace kI:=of_decide_eq_false kI
  refine zD 15<|ja ((k:Int)+1) (by omega)<|zD 2<|bF bE (k+1) ⟨by omega,by rw[hI.2,W8 nj];simp_all⟩ (by omega) [0,1] (Sub.refl _)
 refine zD 7<|zX (.bool false) ⟨by rw[hI.2,apE (by omega)],rfl⟩
theorem aHF{fa:Value}{ve Nb:List aB}(hN:Dn ro vd xs)(hD:bP vd xs d X)(hb:a8 ro vb 5 di ve)(ha:a8 ro va 5 di Nb)(hn:ve.length≤100∧Nb.length≤100):dQ zT 17 [zP d,.agg ⟨[s0,s1,s2,t0,t1,ru,vb,va,zI gone,zI new,zI ab,fa]⟩] ro X (fun r Y=>∃x:bK,r= .agg ⟨kJ x⟩∧(0≤x.a∧(x.a <ve.length∨x.a=0))∧(0≤x.b∧(x.b <Nb.length∨x.b=0))∧bP vd xs d Y):=by
 obtain⟨jD,Hf,Hd,jv,rfl,He,Gi,Gh⟩:=hb
 obtain⟨iW,Fs,Fj,iQ,rfl,Fo,EA,Ez⟩:=ha
 refine zC [.l X]<|zD 2<|jn fun b3=>jn fun b4=>jd 7 [1]<|ja ((ve.length:Int)-1) (by omega)<|jd 4 [1]<|ja ((Nb.length:Int)-1) (by omega)<|zD 1<|aS 5 fun E5 E9 Cy=>jc (vs:=[zP d,zI ((ve.length:Int)-1)]) [2] (FR hN hD (by omega)) ?_
 rintro _ X10 ⟨w10,rfl,ahd,sr,Wn⟩
 refine fR Cy [[2],[2]]<|aS 11 fun A1 Bn Av=>jc (vs:=[zP d,zI ((Nb.length:Int)-1)]) [0] (FR hN Wn (by omega)) ?_
 rintro _ X16 ⟨w16,rfl,aEj,nj,ai5⟩
 refine fR Av [[2],[2]]<|aS 13 fun rZ r8 qM=>jc (vs:=[zP d,zI 2]) [0] (tG hN ai5 (by omega)) ?_
 rintro _ X18 ⟨w18,rfl,OT⟩
 refine fR qM [[2],[2]]<|zD 1<|aS 15 fun sL sR qL=>jd 1 [1]<|gA qL<|zD 2<|zR (.agg ⟨[zI w10,zI w16,.bool w18]⟩) [1] [0] X18 ⟨⟨_,_,_⟩,rfl,(by dsimp only;omega),(by dsimp only;omega),OT⟩
inductive dc{α β:Type}(R:α→β→Prop):List α→List β→Prop
 |nil:dc R [] []
 |cons {a:α} {b:β} {l:List α} {m:List β}:R a b→dc R l m→dc R (a::l) (b::m)
theorem dc.snoc{R:α→β→Prop}{l:List α}{m:List β}{a:α}{b:β}(h:dc R l m)(k:R a b):dc R (l++[a]) (m++[b]):=by
 induction h with
 |nil=>exact .cons k .nil
 |cons h1 _ ih=>exact .cons h1 ih
theorem dc.len{R:α→β→Prop}{l:List α}{m:List β}(h:dc R l m):l.length=m.length:=by
 induction h with
 |nil=>rfl
 |cons _ _ ih=>simp[ih]
theorem dc.get{R:α→β→Prop}{l:List α}{m:List β}(h:dc R l m){a:α}(ha:l[i]?=some a):∃b,m[i]?=some b∧R a b:=by
 induction h generalizing i with
 |nil=>simp at ha
 |cons h1 _ ih=>
  cases i with
  |zero=>simp at ha;subst ha;exact⟨_,rfl,h1⟩
  |succ i=>exact ih (by simpa using ha)
theorem dc.imp{R S:α→β→Prop}{l:List α}{m:List β}(h:dc R l m)(k:∀a b,R a b→S a b):dc S l m:=by
 induction h with
 |nil=>exact .nil
 |cons h1 _ ih=>exact .cons (k _ _ h1) ih
structure cy where
 word:ByteArray
 cls:Int
 lE:Int
 dt:List Int
variable {hd:List cy}
def du(h:aY)(x:cy):Prop:=h.word=x.word∧h.cls=x.cls∧h.lE=x.lE
def oG(ro:Nat→Option Obj)(h:aY)(x:cy):Prop:=h.word=x.word∧h.cls=x.cls∧h.lE=x.lE∧a8 ro h.dt 1 cD x.dt
def iv(ro:Nat→Option Obj)(vc vh:Value)(cs:List bO)(hv:List aY)(hd:List cy):Prop:=a8 ro vc 2 lJ cs∧a8 ro vh 4 jZ hv∧dc (oG ro) hv hd
def gZ(nc nh:Nat)(i:Nat)(x:cy):Prop:=(-1≤x.cls∧x.cls <nc)∧(-1≤x.lE∧x.lE <nh∧x.lE≠i)∧(x.dt.length≤nh∧x.dt.Pairwise (· < ·)∧∀y∈x.dt,0≤y∧y <nh∧y≠i)∧(x.lE≠ -1→x.cls= -1∧x.dt=[])∧(x.lE= -1→x.cls= -1→x.dt≠[])
structure xB(cs:List bO)(hd:List cy):Prop where
 nc:0 <cs.length∧cs.length≤3
 nh:hd.length≤4
 cls:∀(i:Nat) (c:bO),cs[i]?=some c→c.name∈nT∧ -1≤c.under∧c.under <i
 names:(cs.map (·.name)).Pairwise fun a b=>cI a b=false
 u4:∀(i:Nat) (x:cy),hd[i]?=some x→x.word∈pR∧gZ cs.length hd.length i x
 words:(hd.map (·.word)).Pairwise fun a b=>cI a b=false∧strLt b a=false
def ox(names:List Int)(cs:List bO):Prop:=∀(i:Nat) (c:bO),cs[i]?=some c→(∃y,names[i]?=some y∧nT[y.toNat]?=some c.name)∧ -1≤c.under∧c.under <i
theorem SZ{l:List α}{x y:α}(h:(l++[x])[i]?=some y):l[i]?=some y∨(i=l.length∧y=x):=by
 rcases Nat.lt_trichotomy i l.length with h1|h1|h1
 ·rw[List.getElem?_append_left h1] at h;exact .inl h
 ·subst h1;simp at h;exact .inr ⟨rfl,h.symm⟩
 rw[List.getElem?_eq_none (by simp;omega)] at h;cases h
theorem ox.snoc{names:List Int}(h:ox names cs){y u:Int}(h1:names[cs.length]?=some y) (h2:nT[y.toNat]?=some nm) (h3: -1≤u∧u <cs.length):ox names (cs++[⟨nm,u⟩]):=fun i c hc=>by
 rcases SZ hc with h4| ⟨rfl,rfl⟩
 ·exact h i c h4
 exact⟨⟨y,h1,h2⟩,h3⟩
def nA(ws:List Int)(nc:Nat)(hv:List aY)(hd:List cy)(Z:Cells)(i:Nat):Prop:=
 (∀ro,Knows ro Z→dc (oG ro) hv hd)∧hd.length=i∧hv.length=i∧(∀(k:Nat) (x:cy),hd[k]?=some x→(∃w,ws[k]?=some w∧pR[w.toNat]?=some x.word)∧gZ nc ws.length k x)∧dc du hv hd
theorem nA.snoc{ws:List Int}{hv:List aY}{Z A:Cells}(h:nA ws nc hv hd Z i){hV:aY}{x:cy}{w:Int}(h0:du hV x)(h1:∀ro,Knows ro A→oG ro hV x)(h2:ws[i]?=some w) (h3:pR[w.toNat]?=some x.word) (h4:gZ nc ws.length i x):
 nA ws nc (hv++[hV]) (hd++[x]) (A++Z) (i+1):=by
 obtain⟨g1,g2,g3,g4,g5⟩:=h
 refine⟨fun ro hk=>(g1 ro hk.right).snoc (h1 ro hk.left),by simp[g2],by simp[g3],fun k y hy=>?_,g5.snoc h0⟩
 rcases SZ hy with h5| ⟨rfl,rfl⟩
 ·exact g4 k y h5
 rw[g2];exact⟨⟨w,h2,h3⟩,h4⟩
theorem ang{i n w:Int}(hi:0≤i∧i <n)(hw:0≤w∧w≤n-2):0≤Int.tmod (i+1+w) n∧Int.tmod (i+1+w) n <n∧Int.tmod (i+1+w) n≠i:=by
 have h1:=Int.tmod_nonneg n (show 0≤i+1+w by omega)
 have h2:=Int.tmod_lt_of_pos (i+1+w) (show 0 <n by omega)
 refine⟨h1,h2,fun h=>?_⟩
 have h3:=Int.tmod_add_mul_tdiv (i+1+w) n
 rw[h] at h3
 have h4:n*(i+1+w).tdiv n=1+w:=by omega
 rcases Int.lt_trichotomy ((i+1+w).tdiv n) 0 with h5|h5|h5
 ·have:n*(i+1+w).tdiv n≤n* -1:=Int.mul_le_mul_of_nonneg_left (by omega) (by omega)
  omega
 ·rw[h5] at h4;omega
 have:n*1≤n*(i+1+w).tdiv n:=Int.mul_le_mul_of_nonneg_left (by omega) (by omega)
 omega
theorem Ep:nT.Pairwise fun a b=>cI a b=false:=by simp only[Bo];decide
theorem WT:pR.Pairwise fun a b=>cI a b=false∧strLt b a=false:=by simp only[Bo,QH];decide
def me(i:Nat)(k:Nat)(al:List Int):Prop:=al.length≤k∧al.Pairwise (· < ·)∧∀y∈al,0≤y∧y <k∧y≠i
theorem qu{l:List α}{R:α→α→Prop}(h:l.Pairwise R){j:Nat}{a b:α}(JN:i <j)(ha:l[i]?=some a) (hb:l[j]?=some b):R a b:=by
 obtain⟨h1,rfl⟩:=List.getElem?_eq_some_iff.1 ha
 obtain⟨h2,rfl⟩:=List.getElem?_eq_some_iff.1 hb
 exact List.pairwise_iff_getElem.1 h i j h1 h2 JN
theorem afa{l:List α}{f:α→β}{R:β→β→Prop}(h:∀(i j:Nat) (a b:α),i <j→l[i]?=some a→l[j]?=some b→R (f a) (f b)):(l.map f).Pairwise R:=by
 rw[List.pairwise_map,List.pairwise_iff_getElem]
 exact fun i j hi hj JN=>h i j _ _ JN (List.getElem?_eq_getElem hi) (List.getElem?_eq_getElem hj)
theorem UJ{a b:ByteArray}(h:cI a b=false):cI b a=false:=by
 cases h2:cI b a with
 |false=>rfl
 |true=>rw[CQ.1 h2,CQ.2 rfl] at h;cases h
theorem aaw{NU k9:List Int}{hv:List aY}{Z:Cells}(hc:ox NU cs)(hp:NU.Perm (cK nT.length))(hn:0 <cs.length∧cs.length≤3)(hh:nA k9 cs.length hv hd Z i)(hi:i=k9.length)(h4:k9.length≤4)(hs:k9.Pairwise (· < ·))(hm:∀x∈k9,0≤x∧x <pR.length):xB cs hd:=by
 obtain⟨g1,g2,g3,g4,_⟩:=hh
 have jM:∀y∈NU,0≤y∧y <nT.length:=fun y hy=>nV (hp.mem_iff.1 hy)
 have mG:NU.Pairwise (· ≠·):=(hp.pairwise_iff (fun h=>Ne.symm h)).2 ((sb _).imp fun h=>by omega)
 refine⟨hn,by omega,fun k c hk=>?_,afa fun a b x y Cw hx hy=>?_,fun k x hk=>?_,afa fun a b x y Cw hx hy=>?_⟩
 ·obtain⟨⟨y,h1,h2⟩,h3⟩:=hc k c hk
  exact⟨zL h2,h3⟩
 ·obtain⟨⟨p,p1,p2⟩,_⟩:=hc a x hx
  obtain⟨⟨q,q1,q2⟩,_⟩:=hc b y hy
  have Zb:=qu mG Cw p1 q1
  have hp0:=jM p (zL p1)
  have Za:=jM q (zL q1)
  rcases Nat.lt_trichotomy p.toNat q.toNat with h|h|h
  ·exact qu Ep h p2 q2
  ·exact absurd (show p=q by omega) Zb
  exact UJ (qu Ep h q2 p2)
 ·obtain⟨⟨w,h1,h2⟩,h3⟩:=g4 k x hk
  have:hd.length=k9.length:=by omega
  rw[this]
  exact⟨zL h2,h3⟩
 obtain⟨⟨p,p1,p2⟩,_⟩:=g4 a x hx
 obtain⟨⟨q,q1,q2⟩,_⟩:=g4 b y hy
 have Zb:=qu hs Cw p1 q1
 have hp0:=hm p (zL p1)
 exact qu WT (show p.toNat <q.toNat by omega) p2 q2
theorem me.step(h:me i k al):me i (k+1) al:=⟨by have:=h.1;omega,h.2.1,fun y hy=>by have:=h.2.2 y hy;omega⟩
theorem me.snoc(h:me i k al)(hk:(k:Int)≠i):me i (k+1) (al++[(k:Int)]):=by
 refine⟨by have:=h.1;simp;omega,List.pairwise_append.2 ⟨h.2.1,List.pairwise_singleton _ _,fun a ha b hb=>?_⟩,ny (fun y hy=>by have:=h.2.2 y hy;omega) (by omega)⟩
 rw[List.mem_singleton] at hb;subst hb
 exact(h.2.2 a ha).2.1
theorem aii{r:Int}{w:ByteArray}(h:0≤r∧r <nh∧r≠i)(h4:0 <nc):gZ nc nh i ⟨w,-1,r,[]⟩:=
 have h1:=h.1
 have h2:=h.2.1
 have h3:=h.2.2
 ⟨⟨by simp,by simp<;>omega⟩,⟨by simp<;>omega,by simpa using h2,by simpa using h3⟩,⟨by simp,by simp,by simp⟩,fun _=>⟨rfl,rfl⟩,fun h=>by simp at h;omega⟩
theorem MD{c:Int}{w:ByteArray}(hc:0≤c∧c <nc)(h:me i k al)(hk:k≤nh)(hi:i <nh):gZ nc nh i ⟨w,c,-1,al⟩:=
 ⟨⟨by simp<;>omega,by simpa using hc.2⟩,⟨by simp,by simp<;>omega,by simp<;>omega⟩,⟨by have:=h.1;simp<;>omega,h.2.1,fun y hy=>by have:=h.2.2 y hy;simp<;>omega⟩,fun hh=>by simp at hh,fun _ hh=>by simp at hh;omega⟩
theorem aij{w:ByteArray}(h:me i k al)(hk:k≤nh)(hi:i <nh)(ek:(al.length:Int)>0):gZ nc nh i ⟨w,-1,-1,al⟩:=
 ⟨⟨by simp,by simp<;>omega⟩,⟨by simp,by simp<;>omega,by simp<;>omega⟩,⟨by have:=h.1;simp<;>omega,h.2.1,fun y hy=>by have:=h.2.2 y hy;simp<;>omega⟩,fun hh=>by simp at hh,fun _ _ hh=>by simp at hh;subst hh;simp at ek⟩
set_option maxHeartbeats 1000000 in
theorem apf (hN:Dn ro vd xs) (hD:bP vd xs d X):dQ zT 26 [zP d,zI 3,zI 4] ro X (fun r Y=>∃(cs:List bO) (hv:List aY) (hd:List cy) (vc vh:Value) (Z X':Cells),r= .agg ⟨[vc,vh]⟩∧xB cs hd∧dc du hv hd∧(∀aC,Knows aC Z→iv aC vc vh cs hv hd)∧Y=Z++X'∧bP vd xs d X'):=by
 refine zC [.l X]<|zD 2<|jn fun b6=>zD 3<|jn fun b7=>zD 4<|jc [] (agx) ?_
 rintro v16 L16 ⟨_,awv,rfl⟩
 refine Fy awv<|jc (vs:=[zP d,zI (nT.length:Int)]) [3] (ake hN hD (by first|omega|decide)) ?_
 rintro v18 _ ⟨NU,L18,X18,abS,Sn,rfl,OT⟩
 refine jg 0 [.l L18,.l X18]<|zD 7<|jc (vs:=[zP d,zI 1,zI 3]) [1] (B8 hN OT (by omega) (by omega)) ?_
 rintro _ X21 ⟨w21,rfl,an5,qD,aTy⟩
 refine zD 3<|nB<|dL [1,1,1,0,1,0,0] [] (fun(zz:Int×Value×Cells×(List bO)×Cells)=>[(0,zP d),(2,zI 4),(6,zP b6),(7,zP b7),(8,v18),(9,zI zz.1)]) (fun zz=>[.l zz.2.2.1,.l zz.2.2.2.2,.b b7 (.cells ⟨[zz.2.1,zS]⟩ 35 (0,0)),.l L18,.b b6 (.cells ⟨[zS,zS]⟩ 35 (0,0))]) (fun zz=>(0≤zz.1∧zz.2.2.2.1.length+zz.1=w21)∧aw zz.2.1 2 140 lJ zz.2.2.2.1 zz.2.2.1∧ox NU zz.2.2.2.1∧bP vd xs d zz.2.2.2.2) (fun zz=>zz.1.toNat) (⟨w21,zS,[],[],X21⟩) ⟨by simp only[List.length_nil];omega,aw.nil _ _ _,(fun i c h=>by simp at h),aTy⟩ [0,1,4,2,5] ?_
 rintro⟨j,vC,LC,cs,X⟩ hI K1 bE rest
 dsimp only at hI
 have hlen:NU.length=9:=by rw[Sn.length_eq,iC];rfl
 refine zD 6<|zJ 23 (j>0) (fun h1=>?_) fun h1=>?_
 ·
  refine jd 10 [2,2]<|Fy hI.2.1 ?_
  obtain⟨x33,ag3⟩:=zG NU (cs.length)
  refine YT 1 abS ag3 fun b33 aSt=>oQ 0 [3] L18 (fun s _ hZ=>cJ abS aSt hZ ag3)<|jd 3 [2]<|Fy hI.2.1<|ja ((cs.length:Int)-1) (by omega)<|aS 2 fun A1 Bn Av=>jc [] (agx) ?_
  rintro v28 L28 ⟨_,aEY,rfl⟩
  refine ep Av (zN 1 5) ?_
  obtain⟨x35,HU⟩:=zG nT (x33.toNat) (by have:=nV (Sn.mem_iff.1 (zL ag3));omega)
  refine qA x33 1 aEY HU (Int.toNat_of_nonneg (show 0≤x33∧x33 <((nT).length:Int) from (nV (Sn.mem_iff.1 (zL ag3)))).1).symm fun b35 aSr=>oQ 0 [0] L28 (fun s _ hZ=>cJ aEY aSr hZ HU)<|aS 16 fun rZ r8 qM=>jc (vs:=[zP d,zI (-1),zI ((cs.length:Int)-1)]) [2] (B8 hN hI.2.2.2 (by omega) (by omega)) ?_
  rintro _ X42 ⟨w42,rfl,bcp,VI,aTs⟩
  refine fR qM [[1],[3],[4],[3],[3]]<|zD 1<|aS 18 fun sL sR qL=>jn fun CG=>ep qL (zN 1 6)<|aS 19 fun A0 Bm Au=>gL (sz:=2) (ps:=cs) (qs:=[(⟨x35,w42⟩:bO)]) (enc:=lJ) (w:= .slice (some ⟨CG,0,none⟩) 1 1) [3] [0] [(CG,.cells ⟨([(⟨x35,w42⟩:bO)].map lJ).flatten⟩ 140 (0,0))] (hI.2.1) (fun s _ hZ=>bN [(⟨x35,w42⟩:bO)] (hZ _ (.head _)) (by intro p hp;rfl)) (fun p _=>ah rfl) (by simp<;>omega) (fun v45 L45 ahD=>?_)
  obtain⟨as7,asV,axh⟩:=ahD.form
  subst axh
  refine fR Au [[3],[4],[5],[4]]<|zD 1<|aS 21 fun adl aeb hL6=>jd 1 [4]<|gA hL6<|zD 3<|ja (j-1) (by omega)<|zD 2<|bF bE (⟨j-1,(.slice as7 ((cs++[(⟨x35,w42⟩:bO)])).length asV),L45,(cs++[(⟨x35,w42⟩:bO)]),X42⟩) ⟨by simp only[zM];omega,ahD,ox.snoc hI.2.2.1 ag3 HU (by omega),aTs⟩ (by omega) [0,2,4,5,6] (Sub.refl _)
 refine zD 5<|jc [] (agN) ?_
 rintro v48 L48 ⟨_,aQo,rfl⟩
 refine Fy aQo<|zD 2<|jc (vs:=[zP d,zI 4]) [2] (FR hN hI.2.2.2 (by omega)) ?_
 rintro _ X52 ⟨w52,rfl,bco,wI,aTr⟩
 refine jc (vs:=[zP d,zI (pR.length:Int),zI w52]) [0] (aHG hN aTr (by first|omega|decide)) ?_
 rintro v53 _ ⟨k9,L53,X53,awu,bdj,wK,ahY,rfl,aoR⟩
 refine jg 0 [.l L53,.l X53]<|zD 5<|Fy awu<|zD 8<|nB<|nB<|dL [1,1,1,1,1,1,0,1,0,0] [] (fun(zz:Nat×Value×Cells×(List aY)×(List cy)×Cells×Cells)=>[(0,zP d),(6,zP b6),(7,zP b7),(10,v53),(11,zI (k9.length:Int)),(12,zI (zz.1:Int))]) (fun zz=>[.l zz.2.2.1,.l zz.2.2.2.2.2.1,.l zz.2.2.2.2.2.2,.l LC,.b b7 (.cells ⟨[vC,zz.2.1]⟩ 35 (0,0)),.l L53,.b b6 (.cells ⟨[zS,zS]⟩ 35 (0,0))]) (fun zz=>zz.1≤k9.length∧aw zz.2.1 4 143 jZ zz.2.2.2.1 zz.2.2.1∧nA k9 cs.length zz.2.2.2.1 zz.2.2.2.2.1 zz.2.2.2.2.2.1 zz.1∧bP vd xs d zz.2.2.2.2.2.2) (fun zz=>k9.length-zz.1) (⟨0,zS,[],[],[],[],X53⟩) ⟨by omega,aw.nil _ _ _,⟨fun _ _=> .nil,rfl,rfl,(fun k x h=>by simp at h),.nil⟩,aoR⟩ [1,0,3,5,6,2,8] ?_
 rintro⟨i,vH,LH,hv,hd,Z,X⟩ hJ K7 hK7 rest
 dsimp only at hJ
 have hll:=hJ.2.2.1.2.2.1
 have T5:k9.length≤4:=by omega
 have iZ:cs.length≤3:=by omega
 refine zD 7<|zJ 58 ((i:Int) <(k9.length:Int)) (fun h7=>?_) fun h7=>?_
 ·
  refine zD 5<|EL [1,1,1,1,1,1,0,1,0,0,1,0,0,1] [K7] (fun(zz:Nat×Int×Int×ByteArray×Cells)=>[(0,zP d),(6,zP b6),(7,zP b7),(10,v53),(11,zI (k9.length:Int)),(12,zI (i:Int)),(13,zP zz.1)]) (fun zz=>[.b zz.1 (.cells ⟨[.string zz.2.2.2.1,zI zz.2.1,zI (-1),zS]⟩ 143 (0,0)),.l LH,.l Z,.l zz.2.2.2.2,.l LC,.b b7 (.cells ⟨[vC,vH]⟩ 35 (0,0)),.l L53,.b b6 (.cells ⟨[zS,zS]⟩ 35 (0,0))]) (fun zz=>k9[i]?=some zz.2.2.1∧pR[zz.2.2.1.toNat]?=some zz.2.2.2.1∧(0≤zz.2.1∧zz.2.1 <cs.length)∧bP vd xs d zz.2.2.2.2) ?_ (fun K8 hK8=>?_)
  ·
   rintro⟨AY,w,y,x,X⟩ Uf rest
   dsimp only at Uf
   refine zD 2<|EL [1,1,1,1,1,1,0,1,0,0,1,0,0,1,0,1] [K7] (fun(zz:Bool×Cells)=>[(0,zP d),(6,zP b6),(7,zP b7),(10,v53),(11,zI (k9.length:Int)),(12,zI (i:Int)),(13,zP AY),(80,.bool zz.1)]) (fun zz=>[.b AY (.cells ⟨[.string x,zI w,zI (-1),zS]⟩ 143 (0,0)),.l LH,.l Z,.l zz.2,.l LC,.b b7 (.cells ⟨[vC,vH]⟩ 35 (0,0)),.l L53,.b b6 (.cells ⟨[zS,zS]⟩ 35 (0,0))]) (fun zz=>(zz.1=true→1 <k9.length)∧bP vd xs d zz.2) ?_ (fun K9 hK9=>?_)
   ·
    rintro⟨q,X⟩ hJ3 rest
    dsimp only at hJ3
    refine js 80 q (fun h8=>?_) (fun h8=>?_)
    ·
     subst h8
     have hgt:=hJ3.1 rfl
     refine zD 4<|ja ((i:Int)+1) (by omega)<|zD 2<|ja ((k9.length:Int)-2) (by omega)<|zD 2<|aS 5 fun yG yI qN=>jc (vs:=[zP d,zI ((k9.length:Int)-2)]) [3] (FR hN hJ3.2 (by omega)) ?_
     rintro _ X86 ⟨w86,rfl,bcm,ag0,aTl⟩
     refine fR qN []<|ja (((i:Int)+1)+w86) (by omega)<|jrm (k:= .i64) (a:=(((i:Int)+1)+w86)) (b:=(k9.length:Int)) 3 (by omega)<|aS 10 fun Eh Eo wQ=>jd 1 [1]<|fR wQ []<|zD 1<|aS 12 fun GC GS wP=>jd 1 [1]<|gA wP<|jd 6 [5,1]<|jn fun b95=>gL (sz:=4) (ps:=hv) (qs:=[(⟨x,(-1),(Int.tmod (((i:Int)+1)+w86) (k9.length:Int)),zS⟩:aY)]) (enc:=jZ) (w:= .slice (some ⟨b95,0,none⟩) 1 1) [3] [0] [(b95,.cells ⟨([(⟨x,(-1),(Int.tmod (((i:Int)+1)+w86) (k9.length:Int)),zS⟩:aY)].map jZ).flatten⟩ 143 (0,0))] (hJ.2.1) (fun s _ hZ=>bN [(⟨x,(-1),(Int.tmod (((i:Int)+1)+w86) (k9.length:Int)),zS⟩:aY)] (hZ _ (.head _)) (by intro p hp;rfl)) (by intro p hp;rw[List.mem_singleton] at hp;subst hp;exact ah rfl) (by simp<;>omega) (fun v96 L96 ahw=>?_)
     obtain⟨aLB,aLa,aRo⟩:=ahw.form
     subst aRo
     refine jd 6 [6]<|ja ((i:Int)+1) (by omega)<|zD 2<|bF hK7 (⟨i+1,(.slice aLB ((hv++[(⟨x,(-1),(Int.tmod (((i:Int)+1)+w86) (k9.length:Int)),zS⟩:aY)])).length aLa),L96,(hv++[(⟨x,(-1),(Int.tmod (((i:Int)+1)+w86) (k9.length:Int)),zS⟩:aY)]),_,Z,X86⟩) ⟨by omega,ahw,(by have:=nA.snoc (A:=[]) hJ.2.2.1 (h0:=⟨rfl,rfl,rfl⟩) (hV:=⟨x,-1,(Int.tmod (((i:Int)+1)+w86) (k9.length:Int)),zS⟩) (x:=⟨x,-1,(Int.tmod (((i:Int)+1)+w86) (k9.length:Int)),[]⟩) (fun ro _=>⟨rfl,rfl,rfl,a8.nil _ _ _ _ _⟩) Uf.1 Uf.2.1 (aii (ang ⟨by omega,by omega⟩ ⟨by omega,by omega⟩) (by omega));simpa only[List.nil_append] using this),aTl⟩ (by omega) [0,4,2,5,6,7,8] (Sub.refl _)
    subst h8
    refine zD 8<|nB<|dL [1,1,1,1,1,1,0,1,0,0,1,0,0,1,1,0,1,0,0] [K7] (fun(zz:Nat×Value×Cells×(List Int)×Cells)=>[(0,zP d),(6,zP b6),(7,zP b7),(10,v53),(11,zI (k9.length:Int)),(12,zI (i:Int)),(13,zP AY),(14,zI (zz.1:Int))]) (fun zz=>[.l zz.2.2.1,.l zz.2.2.2.2,.b AY (.cells ⟨[.string x,zI w,zI (-1),zz.2.1]⟩ 143 (0,0)),.l LH,.l Z,.l LC,.b b7 (.cells ⟨[vC,vH]⟩ 35 (0,0)),.l L53,.b b6 (.cells ⟨[zS,zS]⟩ 35 (0,0))]) (fun zz=>(zz.1≤k9.length∧zz.2.2.2.1.length≤zz.1)∧aw zz.2.1 1 3 cD zz.2.2.2.1 zz.2.2.1∧me i zz.1 zz.2.2.2.1∧bP vd xs d zz.2.2.2.2) (fun zz=>k9.length-zz.1) (⟨0,zS,[],[],X⟩) ⟨by simp,aw.nil _ _ _,⟨by simp,by simp,by simp⟩,hJ3.2⟩ [0,4,1,2,3,5,6,7,8] ?_
    rintro⟨k,vA,LA,al,X⟩ hK K13 OQ rest
    dsimp only at hK
    obtain⟨qa,qc,rfl⟩:=hK.2.1.form
    refine zD 7<|zJ 100 ((k:Int) <(k9.length:Int)) (fun EP=>?_) fun EP=>?_
    ·
     refine zD 10<|js 106 (!decide ((k:Int)=(i:Int))) (fun Cz=>?_) (fun Cz=>?_)
     ·
      have ajr:=Cz
      replace ajr:=of_decide_eq_false (by simpa using ajr)
      refine zD 1<|jc (vs:=[zP d,zI 4]) [1] (tG hN hK.2.2.2 (by omega)) ?_
      rintro _ aIv ⟨aK7,rfl,arW⟩
      refine zD 2<|js 109 aK7 (fun SW=>?_) (fun SW=>?_)
      ·
       subst SW
       refine jd 5 [2]<|jn fun aIb=>gL (sz:=1) (ps:=al) (qs:=[(k:Int)]) (enc:=cD) (w:= .slice (some ⟨aIb,0,none⟩) 1 1) [2] [0] [(aIb,.cells ⟨([(k:Int)].map cD).flatten⟩ 3 (0,0))] (hK.2.1) (fun s _ hZ=>bN [(k:Int)] (hZ _ (.head _)) (by intro p hp;rfl)) (fun p _=>ah rfl) (by simp<;>omega) (fun aZN aVo Zf=>?_)
       obtain⟨aA1,aAT,aFU⟩:=Zf.form
       subst aFU
       refine jd 5 [3]<|ja ((k:Int)+1) (by omega)<|zD 2<|bF OQ (⟨k+1,(.slice aA1 ((al++[(k:Int)])).length aAT),aVo,(al++[(k:Int)]),aIv⟩) ⟨by simp only[zM];omega,Zf,me.snoc hK.2.2.1 (by omega),arW⟩ (by omega) [0,2,3,4,5,6,7,8,9] (Sub.refl _)
      subst SW
      refine zD 4<|ja ((k:Int)+1) (by omega)<|zD 2<|bF OQ (⟨k+1,(.slice qa al.length qc),LA,al,aIv⟩) ⟨by dsimp only;omega,hK.2.1,me.step hK.2.2.1,arW⟩ (by omega) [1,0,2,3,4,5,6,7,8] (Sub.refl _)
     have ajr:=Cz
     replace ajr:=of_decide_eq_true (by simpa using ajr)
     refine zD 8<|ja ((k:Int)+1) (by omega)<|zD 2<|bF OQ (⟨k+1,(.slice qa al.length qc),LA,al,X⟩) ⟨by dsimp only;omega,hK.2.1,me.step hK.2.2.1,hK.2.2.2⟩ (by omega) (zN 0 9) (Sub.refl _)
    refine jd 10 [2]<|js 120 (decide ((al.length:Int)>0)) (fun Ix=>?_) (fun Ix=>?_)
    ·
     have wU:=Ix
     replace wU:=of_decide_eq_true wU
     refine zD 1<|jc (vs:=[zP d,zI 4]) [1] (tG hN hK.2.2.2 (by omega)) ?_
     rintro _ aIu ⟨aK4,rfl,arV⟩
     refine zD 2<|js 123 aK4 (fun SV=>?_) (fun SV=>?_)
     ·
      subst SV
      refine jd 9 [2,6,2]<|jn fun Pu=>gL (sz:=4) (ps:=hv) (qs:=[(⟨x,(-1),-1,(.slice qa al.length qc)⟩:aY)]) (enc:=jZ) (w:= .slice (some ⟨Pu,0,none⟩) 1 1) [4] [0] [(Pu,.cells ⟨([(⟨x,(-1),-1,(.slice qa al.length qc)⟩:aY)].map jZ).flatten⟩ 143 (0,0))] (hJ.2.1) (fun s _ hZ=>bN [(⟨x,(-1),-1,(.slice qa al.length qc)⟩:aY)] (hZ _ (.head _)) (by intro p hp;rfl)) (by intro p hp;rw[List.mem_singleton] at hp;subst hp;exact ah rfl) (by simp<;>omega) (fun aBa ak4 rG=>?_)
      obtain⟨Ql,Qj,SJ⟩:=rG.form
      subst SJ
      refine jd 5 [7]<|ja ((i:Int)+1) (by omega)<|zD 2<|HM hK7 (⟨i+1,(.slice Ql ((hv++[(⟨x,(-1),-1,(.slice qa al.length qc)⟩:aY)])).length Qj),ak4,(hv++[(⟨x,(-1),-1,(.slice qa al.length qc)⟩:aY)]),_,LA++Z,aIu⟩) ⟨by omega,rG,nA.snoc (A:=LA) hJ.2.2.1 (h0:=⟨rfl,rfl,rfl⟩) (x:=⟨x,_,-1,al⟩) (fun ro hk=>⟨rfl,rfl,rfl,hK.2.1.jC hk⟩) Uf.1 Uf.2.1 (aij hK.2.2.1 (by omega) (by omega) (by assumption)),arV⟩ (by omega) [[0],[3,5],[2],[6],[7],[8],[9]] (Sub.refl _)
     subst SV
     refine jd 6 [6,2]<|jn fun Pu=>gL (sz:=4) (ps:=hv) (qs:=[(⟨x,w,-1,(.slice qa al.length qc)⟩:aY)]) (enc:=jZ) (w:= .slice (some ⟨Pu,0,none⟩) 1 1) [4] [0] [(Pu,.cells ⟨([(⟨x,w,-1,(.slice qa al.length qc)⟩:aY)].map jZ).flatten⟩ 143 (0,0))] (hJ.2.1) (fun s _ hZ=>bN [(⟨x,w,-1,(.slice qa al.length qc)⟩:aY)] (hZ _ (.head _)) (by intro p hp;rfl)) (by intro p hp;rw[List.mem_singleton] at hp;subst hp;exact ah rfl) (by simp<;>omega) (fun aBa ak4 rG=>?_)
     obtain⟨Ql,Qj,SJ⟩:=rG.form
     subst SJ
     refine jd 5 [7]<|ja ((i:Int)+1) (by omega)<|zD 2<|HM hK7 (⟨i+1,(.slice Ql ((hv++[(⟨x,w,-1,(.slice qa al.length qc)⟩:aY)])).length Qj),ak4,(hv++[(⟨x,w,-1,(.slice qa al.length qc)⟩:aY)]),_,LA++Z,aIu⟩) ⟨by omega,rG,nA.snoc (A:=LA) hJ.2.2.1 (h0:=⟨rfl,rfl,rfl⟩) (x:=⟨x,_,-1,al⟩) (fun ro hk=>⟨rfl,rfl,rfl,hK.2.1.jC hk⟩) Uf.1 Uf.2.1 (MD (by omega) hK.2.2.1 (by omega) (by omega)),arV⟩ (by omega) [[0],[3,5],[2],[6],[7],[8],[9]] (Sub.refl _)
    have wU:=Ix
    replace wU:=of_decide_eq_false wU
    refine jd 10 [6,2]<|jn fun Pu=>gL (sz:=4) (ps:=hv) (qs:=[(⟨x,w,-1,(.slice qa al.length qc)⟩:aY)]) (enc:=jZ) (w:= .slice (some ⟨Pu,0,none⟩) 1 1) [4] [0] [(Pu,.cells ⟨([(⟨x,w,-1,(.slice qa al.length qc)⟩:aY)].map jZ).flatten⟩ 143 (0,0))] (hJ.2.1) (fun s _ hZ=>bN [(⟨x,w,-1,(.slice qa al.length qc)⟩:aY)] (hZ _ (.head _)) (by intro p hp;rfl)) (by intro p hp;rw[List.mem_singleton] at hp;subst hp;exact ah rfl) (by simp<;>omega) (fun aBa ak4 rG=>?_)
    obtain⟨Ql,Qj,SJ⟩:=rG.form
    subst SJ
    refine jd 5 [7]<|ja ((i:Int)+1) (by omega)<|zD 2<|HM hK7 (⟨i+1,(.slice Ql ((hv++[(⟨x,w,-1,(.slice qa al.length qc)⟩:aY)])).length Qj),ak4,(hv++[(⟨x,w,-1,(.slice qa al.length qc)⟩:aY)]),_,LA++Z,X⟩) ⟨by omega,rG,nA.snoc (A:=LA) hJ.2.2.1 (h0:=⟨rfl,rfl,rfl⟩) (x:=⟨x,_,-1,al⟩) (fun ro hk=>⟨rfl,rfl,rfl,hK.2.1.jC hk⟩) Uf.1 Uf.2.1 (MD (by omega) hK.2.2.1 (by omega) (by omega)),hK.2.2.2⟩ (by omega) [[0],[2,5],[3],[6],[7],[8],[9]] (Sub.refl _)
   refine zD 4<|js 77 (decide ((k9.length:Int)>1)) (fun SU=>?_) (fun SU=>?_)
   ·
    have qO:=SU
    replace qO:=of_decide_eq_true qO
    refine zD 1<|jc (vs:=[zP d,zI 3]) [3] (tG hN Uf.2.2.2 (by omega)) ?_
    rintro _ X79 ⟨w79,rfl,aTn⟩
    refine zD 2<|bF hK9 ⟨w79,X79⟩ ⟨fun _=>by omega,aTn⟩ Nat.zero_lt_one [1,2,3,0,4,5,6,7] (Sub.refl _)
   have qO:=SU
   replace qO:=of_decide_eq_false qO
   refine zD 4<|bF hK9 ⟨false,X⟩ ⟨(fun h=>by cases h),Uf.2.2.2⟩ Nat.zero_lt_one (zN 0 8) (Sub.refl _)
  refine zD 3 ?_
  obtain⟨x64,Om⟩:=zG k9 i
  refine YT 1 awu Om fun b64 aSh=>oQ 0 [5] L53 (fun s _ hZ=>cJ awu aSh hZ Om)<|jd 3 [4]<|Fy hI.2.1<|ja ((cs.length:Int)-1) (by omega)<|Gm [0,14] ⟨fun z14 t15 FM=>?_,fun z17 t18 OO=>?_,trivial⟩
  ·
   refine jc [] (agN) ?_
   rintro v61 L61 ⟨_,Sq,rfl⟩
   refine ep FM (zN 1 7) ?_
   obtain⟨x66,HR⟩:=zG pR (x64.toNat) (by have:=ahY _ (zL Om);omega)
   refine qA x64 1 Sq HR (Int.toNat_of_nonneg (show 0≤x64∧x64 <((pR).length:Int) from (ahY _ (zL Om))).1).symm fun b66 axF=>oQ 0 [0] L61 (fun s _ hZ=>cJ Sq axF hZ HR)<|Gm [12,14] ⟨fun z20 t21 Wl=>?_,fun z23 t24 OL=>?_,trivial⟩
   ·
    refine jc (vs:=[zP d,zI ((cs.length:Int)-1)]) [3] (FR hN hJ.2.2.2 (by omega)) ?_
    rintro _ X73 ⟨w73,rfl,aEe,abG,ai3⟩
    refine fR Wl [[1],[5],[6]]<|zD 1<|aS 14 fun Xo XB BS=>jn fun AY=>ep BS (zN 1 8)<|aS 15 fun KS K0 DJ=>jd 1 [0]<|gA DJ<|zD 1<|bF hK8 ⟨AY,w73,_,x66,X73⟩ ⟨Om,HR,(by dsimp only;omega),ai3⟩ Nat.zero_lt_one [0,3,4,1,5,6,7,8] (Sub.refl _)
   refine jn fun AY=>ep OL (zN 1 8)<|aS 12 fun Qa Qx Iw=>jc (vs:=[zP d,zI ((cs.length:Int)-1)]) [4] (FR hN hJ.2.2.2 (by omega)) ?_
   rintro _ X73 ⟨w73,rfl,aEe,abG,ai3⟩
   refine fR Iw [[2],[6],[7]]<|zD 1<|aS 15 fun P9 Qw Iv=>jd 1 [1]<|gA Iv<|zD 1<|bF hK8 ⟨AY,w73,_,x66,X73⟩ ⟨Om,HR,(by dsimp only;omega),ai3⟩ Nat.zero_lt_one [1,3,4,0,5,6,7,8] (Sub.refl _)
  refine jn fun AY=>ep OO (zN 1 7)<|aS 0 fun adp aef Wk=>jc [] (agN) ?_
  rintro v61 L61 ⟨_,Sq,rfl⟩
  refine ep Wk (zN 1 8) ?_
  obtain⟨x66,HR⟩:=zG pR (x64.toNat) (by have:=ahY _ (zL Om);omega)
  refine qA x64 1 Sq HR (Int.toNat_of_nonneg (show 0≤x64∧x64 <((pR).length:Int) from (ahY _ (zL Om))).1).symm fun b66 axF=>oQ 0 [0] L61 (fun s _ hZ=>cJ Sq axF hZ HR)<|aS 12 fun ado aee SP=>jc (vs:=[zP d,zI ((cs.length:Int)-1)]) [4] (FR hN hJ.2.2.2 (by omega)) ?_
  rintro _ X73 ⟨w73,rfl,aEe,abG,ai3⟩
  refine fR SP [[1],[6],[7]]<|zD 1<|aS 15 fun ap1 aqo Wj=>jd 1 [2]<|gA Wj<|zD 1<|bF hK8 ⟨AY,w73,_,x66,X73⟩ ⟨Om,HR,(by dsimp only;omega),ai3⟩ Nat.zero_lt_one [2,3,4,0,5,6,7,8] (Sub.refl _)
 refine jd 5 [4] ?_
 obtain⟨adS,adL,ain⟩:=hI.2.1.form
 subst ain
 obtain⟨aLT,aLs,aRE⟩:=hJ.2.1.form
 subst aRE
 refine jd 3 [6]<|zR (.agg ⟨[(.slice adS (cs).length adL),(.slice aLT (hv).length aLs)]⟩) [6] [3,0,1,2] (LC++(LH++(Z++X))) ⟨cs,hv,hd,_,_,LC++(LH++Z),X,rfl,aaw hI.2.2.1 Sn (by omega) hJ.2.2.1 (by omega) (by omega) wK ahY,hJ.2.2.1.2.2.2.2,fun aF hk=>⟨hI.2.1.jC hk.left,hJ.2.1.jC hk.right.left,hJ.2.2.1.1 aF hk.right.right⟩,by simp only[List.append_assoc],hJ.2.2.2⟩
abbrev fB(x:Value):List Value:=[x]
structure ai where
 n:Int
 l:Int
abbrev cA(x:ai):List Value:=[zI x.n,zI x.l]
def amR(x y:ai):Prop:=x.n <y.n∨(x.n=y.n∧x.l <y.l)
def Cm(x:ai):Prop:=(1≤x.n∧x.n≤9)∧0≤x.l∧x.l≤4
structure fo(S:List (List ai)):Prop where
 two:S.length=2
 len:∀l∈S,l.length≤4
 ok:∀l∈S,∀x∈l,Cm x
 asc:∀l∈S,l.Pairwise amR
def zu:List (List ai):=[[⟨1,0⟩,⟨2,0⟩],[⟨1,0⟩,⟨3,0⟩]]
def cQ(ro:Nat→Option Obj)(v:Value)(S:List (List ai)):Prop:=∃ws,a8 ro v 1 fB ws∧dc (fun w l=>a8 ro w 2 cA l) ws S
def mz(ro:Nat→Option Obj)(v:Value)(ways:List (List aL)):Prop:=∃ws,a8 ro v 1 fB ws∧dc (fun w l=>a8 ro w 7 iu l) ws ways
theorem cQ.up{v:Value}{S:List (List ai)}(h:cQ ro v S)(hs:Sub ro aC):cQ aC v S:=by
 obtain⟨ws,h1,h2⟩:=h
 exact⟨ws,h1.up hs,h2.imp fun _ _ k=>k.up hs⟩
theorem mz.up{v:Value}{w:List (List aL)}(h:mz ro v w)(hs:Sub ro aC):mz aC v w:=by
 obtain⟨ws,h1,h2⟩:=h
 exact⟨ws,h1.up hs,h2.imp fun _ _ k=>k.up hs⟩
theorem iv.up{hv:List aY}(h:iv ro vc vh cs hv hd)(hs:Sub ro aC):iv aC vc vh cs hv hd:=
 ⟨h.1.up hs,h.2.1.up hs,h.2.2.imp fun _ _ k=>⟨k.1,k.2.1,k.2.2.1,k.2.2.2.up hs⟩⟩
structure aE where
 ways:List (List aL)
 cs:List bO
 hd:List cy
 rules:List cR
 before:List aB
 after:List aB
 gone:Int
 new:Int
 ab:Int
 facts:List bK
 str:List (List ai)
def eR(ro:Nat→Option Obj)(l:List Value)(k:aE):Prop:=∃(vS vT vc vh vr vb va vf:Value) (fa:Option Addr) (fc:Nat) (hv:List aY),
 l=[vS,vT,.slice fa 0 fc,vc,vh,vr,vb,va,zI k.gone,zI k.new,zI k.ab,vf]∧cQ ro vS k.str∧mz ro vT k.ways∧iv ro vc vh k.cs hv k.hd∧dc du hv k.hd∧
 a8 ro vr 2 fW k.rules∧a8 ro vb 5 di k.before∧a8 ro va 5 di k.after∧a8 ro vf 3 kJ k.facts
def ou(hd:List cy)(i:Int):Prop:=i= -1∨(0≤i∧∃x,hd[i.toNat]?=some x∧0≤x.cls)
def Cn(hd:List cy)(p:aB):Prop:=PC p.name∧ou hd p.head∧(0≤p.st∧p.st≤1)∧p.bold=false
def akW(hd:List cy)(p:aB):Prop:=Cn hd p∧(p.st=0→p.no=1∨p.no=2)∧(p.st=1→p.no=1∨p.no=3)
def akX(hd:List cy)(p:aB):Prop:=Cn hd p∧1≤p.no∧p.no≤3
def GA(hd:List cy)(p:aB):Prop:=((1≤p.name.size∧p.name.size≤6)∧Script p.name)∧ou hd p.head∧(0≤p.st∧p.st≤1)∧p.bold=false
def apM(S:List (List ai))(hd:List cy)(p:aB):Prop:=GA hd p∧∃l,S[p.st.toNat]?=some l∧(⟨p.no,0⟩:ai)∈l
def aIy(hd:List cy)(p:aB):Prop:=GA hd p∧1≤p.no∧p.no≤40
structure Px(cs:List bO)(hd:List cy):Prop where
 nc:0 <cs.length∧cs.length≤6
 nh:hd.length≤6
 u4:∀(i:Nat) (x:cy),hd[i]?=some x→gZ cs.length hd.length i x
structure jm(k:aE):Prop where
 m8:fo k.str
 ways:k.ways.length≤1∧∀l∈k.ways,(1≤l.length∧l.length≤2)∧∀c∈l,j5 c
 cX:Px k.cs k.hd
 rules:k.rules.length≤4
 before:k.before.length≤4∧∀p∈k.before,apM k.str k.hd p
 after:k.after.length≤4∧∀p∈k.after,aIy k.hd p
 wE:(0≤k.gone∧k.gone≤4)∧(0≤k.new∧k.new≤4)∧(0≤k.ab∧k.ab≤4)
 facts:k.facts.length≤4∧(∀x∈k.facts,(0≤x.a∧x.a <k.before.length)∧(0≤x.b∧x.b <k.after.length))
 apart:k.facts.Pairwise fun x y=>¬(x.a=y.a∧x.b=y.b)
structure TR(k:aE):Prop where
 ways:k.ways.length≤1∧∀l∈k.ways,(1≤l.length∧l.length≤2)∧∀c∈l,j5 c
 cX:xB k.cs k.hd
 rules:k.rules.length≤2∧∀r∈k.rules,Jx r
 before:k.before.length≤4∧∀p∈k.before,akW k.hd p
 after:k.after.length≤4∧∀p∈k.after,akX k.hd p
 wE:(0≤k.gone∧k.gone≤4)∧(0≤k.new∧k.new≤4)∧(0≤k.ab∧k.ab≤4)
 facts:k.facts.length≤4∧(∀x∈k.facts,(0≤x.a∧x.a <k.before.length)∧(0≤x.b∧x.b <k.after.length))
 apart:k.facts.Pairwise fun x y=>¬(x.a=y.a∧x.b=y.b)
 str:k.str=zu
theorem aa7:fo zu where
 two:=rfl
 len:=by simp[zu]
 ok:=by simp[zu,Cm]
 asc:=by simp[zu,amR]
theorem Cn.c{p:aB}(h:Cn hd p):GA hd p:=⟨⟨⟨h.1.1.1,by have:=h.1.1.2;omega⟩,h.1.2⟩,h.2⟩
theorem TR.c{k:aE}(h:TR k):jm k where
 m8:=by rw[h.str];exact aa7
 ways:=h.ways
 cX:=⟨⟨h.cX.nc.1,by have:=h.cX.nc.2;omega⟩,by have:=h.cX.nh;omega,fun i x hx=>(h.cX.u4 i x hx).2⟩
 rules:=by have:=h.rules.1;omega
 before:=⟨by have:=h.before.1;omega,fun p hp=>by
  obtain⟨h1,h2,h3⟩:=h.before.2 p hp
  refine⟨h1.c,?_⟩
  rw[h.str]
  have h4:=h1.2.2.1
  rcases(by omega:p.st=0∨p.st=1) with e|e
  ·rw[e];exact⟨_,rfl,by rcases h2 e with e2|e2<;>simp[e2]⟩
  rw[e];exact⟨_,rfl,by rcases h3 e with e2|e2<;>simp[e2]⟩⟩
 after:=⟨by have:=h.after.1;omega,fun p hp=>by
  obtain⟨h1,h2,h3⟩:=h.after.2 p hp
  exact⟨h1.c,h2,by omega⟩⟩
 wE:=h.wE
 facts:=⟨by have:=h.facts.1;omega,h.facts.2⟩
 apart:=h.apart
theorem xT{hv:List aY}(h:dc du hv hd){i:Int}(k:i= -1∨Xm hv i):ou hd i:=by
 rcases k with k| ⟨k0,x,k1,k2⟩
 ·exact .inl k
 obtain⟨y,h1,h2⟩:=h.get k1
 exact .inr ⟨k0,y,h1,h2.2.1▸k2⟩
theorem UI{c e:Nat}(h1:ro b=some (.cells ⟨[zI 1,zI 0,zI 2,zI 0]⟩ 73 (0,0)))(h2:ro c=some (.cells ⟨[zI 1,zI 0,zI 3,zI 0]⟩ 73 (0,0)))
 (h3:ro e=some (.cells ⟨[.slice (some ⟨b,0,none⟩) 2 2,.slice (some ⟨c,0,none⟩) 2 2]⟩ 74 (0,0))):cQ ro (.slice (some ⟨e,0,none⟩) 2 2) zu:=
 ⟨_,bV [_,_] h3 (fun _ _=>rfl),.cons (bV [(⟨1,0⟩:ai),⟨2,0⟩] h1 (fun _ _=>rfl)) (.cons (bV [(⟨1,0⟩:ai),⟨3,0⟩] h2 (fun _ _=>rfl)) .nil)⟩
def Co(nb na:Nat)(fs:List bK):Prop:=(∀x∈fs,(0≤x.a∧x.a <nb)∧(0≤x.b∧x.b <na))∧fs.Pairwise fun x y=>¬(x.a=y.a∧x.b=y.b)
theorem Co.snoc{nb na:Nat}(h:Co nb na fs){x:bK}(ha:0≤x.a∧x.a <nb)(hb:0≤x.b∧x.b <na)(hn:oJ fs x.a x.b=false):Co nb na (fs++[x]):=by
 refine⟨ny h.1 ⟨ha,hb⟩,List.pairwise_append.2 ⟨h.2,List.pairwise_singleton _ _,fun y hy z hz e=>?_⟩⟩
 rw[List.mem_singleton] at hz;subst hz
 have:=List.any_eq_false.1 hn y hy
 simp[e.1,e.2] at this
theorem auY{w u:Int}(h:w∈[1,2,4,u])(hu:0≤u∧u≤4):0≤w∧w≤4:=by
 simp only[List.mem_cons,List.not_mem_nil,or_false] at h
 omega
theorem UL:mz ro (zS) []:=⟨[],a8.nil _ _ _ _ _,.nil⟩
end Go.L
