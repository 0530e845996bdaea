/- Part 6 of the proof. -/
import Derived.Test.YtknkndglfcfhkaaGreatDoorQ5
import Derived.KernelRfl
import Derived.Lib.UnsafeStr
import Derived.Test.YtknkndglfcfhkaaGreatDoorProg
set_option maxRecDepth 100000
set_option linter.all false
namespace Go.L
open Go Go.Conc
variable {ro px aD:Nat→Option Obj} {xs al ys:List Int} {Φ:Value→Cells→Prop} {α β κ:Type} {vd vm vc vh s0 s1 s2 t0 t1 ru vb va:Value} {X fr:Cells} {o:Option JS} {args:List Value} {f:FuncId} {P:Program} {d i k n b ck nc sz nh r bD it:Nat} {seen:List Nat} {R:Ending→St→Prop} {E:TypeId} {many lo hi af gone new:Int} {nm:ByteArray} {ag:Bool}
def uL(r ck:Nat)(seen:List Nat):Obj:= .mapIter (some r) ck ⟨seen⟩ ck
def cL(es:Array MapEntry)(seen:List Nat):List MapEntry:=es.toList.filter fun e=> !seen.contains e.born
theorem Cy(es:Array MapEntry):cL es []=es.toList:=by simp[cL]
theorem abp{es:Array MapEntry}{e:MapEntry}:e∈cL es (seen++[b])↔e∈cL es seen∧e.born≠b:=by
 simp only[cL,List.mem_filter,Bool.not_eq_true',List.contains_eq_mem,List.mem_append,List.mem_singleton,decide_eq_false_iff_not,not_or,and_assoc]
theorem GY{es:Array MapEntry}{e:MapEntry}(h:e∈cL es seen):(cL es (seen++[e.born])).length <(cL es seen).length:=by
 have:cL es (seen++[e.born])=(cL es seen).filter fun x=> !decide (x.born=e.born):=by
  simp only[cL,List.filter_filter]
  refine List.filter_congr fun x _=>?_
  simp only[List.contains_eq_mem,List.mem_append,List.mem_singleton,Bool.decide_or,Bool.not_or]
  rw[Bool.and_comm]
 rw[this]
 exact List.length_filter_lt_length_iff_exists.2 ⟨e,h,by simp⟩
def mrV(P:Program)(n:Nat)(p:Oper)(e:Env):Option Value:=match p.op with
 | .range T x=>match aZ P T with
  |some ⟨.map _ _,_,_,_⟩=>bp n e x
  |_=>none
 |_=>none
def nmV(n:Nat)(p:Oper)(e:Env):Option Value:=match p.op with
 | .next x false=>bp n e x
 |_=>none
def enV(n:Nat)(p:Oper)(e:Env):Option Value:=match p.op with
 | .entry x=>bp n e x
 |_=>none
theorem JW{s:St}{Q:β→St→Prop}{E:Halt→St→Prop}{k:Nat→Sem β}(hn:0 <n)(h:∀j,j <n→bP P (k j) s Q E):bP P (choose (.mapNext n) >>= k) s Q E:=by
 show (if (Question.mapNext n).forced=true then _ else _)
 split
 ·exact h 0 hn
 exact fun q=>h _ (Nat.mod_lt _ hn)
section
variable {X:Cx} {o:Option JS}
theorem jmR{es:Array MapEntry}(hm:X.ro r=some (.map es ck))(hj:∀b,J X (m9 [] (.pointer (some ⟨b,0,none⟩)) [(b,uL r ck [])] o))(hv:eR X.n (mrV X.P X.n) o=some (.map (some r)):=by kernel_rfl)(hB:dM [] o=some []:=by kernel_rfl):J X o:=by
 refine jS (Φ:=fun v L'=>∃b,v= .pointer (some ⟨b,0,none⟩)∧L'=[(b,uL r ck [])]) [] [] hv hB (fun p e hf=>?_) (fun v L' pz=>?_)
 ·unfold mrV at hf
  split at hf<;>try (cases hf;done)
  rename_i T x ay
  split at hf<;>try (cases hf;done)
  rename_i dL
  obtain⟨bD,tf⟩:=av dL
  refine⟨by rw[ay];simp,fun R Q E hQ=>?_⟩
  simp only[execOp,ay,Instr.range,aa,a8 tf,aH hf]
  refine cG (.inl hm) rfl rfl ?_
  simp only[aa,ae,ox]
  intro b hb
  exact hQ _ _ ⟨b,rfl,rfl⟩
 obtain⟨b,rfl,rfl⟩:=pz
 exact hj b
theorem jmN{kv:κ→Value}{F:List (κ×Value)}{es:Array MapEntry}(i:Nat)(hm:X.ro r=some (.map es ck))(hE:tA kv F es ck)
 (hT:∀k v e,(k,v)∈F→e∈cL es seen→e.key=kv k→e.val=v→J X (m9 [i] (.tuple ⟨[.bool true,kv k,v]⟩) [(it,uL r ck (seen++[e.born]))] o))
 (hF:cL es seen=[]→J X (m9 [i] (.tuple ⟨[.bool false]⟩) [(it,uL r ck seen)] o))
 (hv:eR X.n (nmV X.n) o=some (.pointer (some ⟨it,0,none⟩)):=by kernel_rfl)(hB:dM [i] o=some [(it,uL r ck seen)]:=by kernel_rfl):J X o:=by
 refine jS (Φ:=fun v L'=>(∃e,e∈cL es seen∧v= .tuple ⟨[.bool true,e.key,e.val]⟩∧L'=[(it,uL r ck (seen++[e.born]))])∨(cL es seen=[]∧v= .tuple ⟨[.bool false]⟩∧L'=[(it,uL r ck seen)])) [i] _ hv hB (fun p e hf=>?_) (fun v L' pz=>?_)
 ·unfold nmV at hf
  split at hf<;>try (cases hf;done)
  rename_i x ay
  refine⟨by rw[ay];simp,fun R Q E hQ=>?_⟩
  simp only[execOp,ay,Instr.next,aa,aH hf]
  have hs:(⟨X.ro,[(it,uL r ck seen)]++R⟩:St).rw=[]++(it,uL r ck seen)::R:=rfl
  refine cG (o:=uL r ck seen) (.inr (by rw[hs];exact fo)) rfl rfl ?_
  simp only[uL,aa]
  refine cG (.inl hm) rfl rfl ?_
  simp only[aa]
  have hb:=hE.2.2
  have bW:¬((!(⟨seen⟩:Array Nat).isEmpty&& !es.isEmpty&&es.all (·.born≥ck))=true):=by
   intro h
   simp only[Bool.and_eq_true,Bool.not_eq_true',Array.all_eq_true,decide_eq_true_eq] at h
   obtain⟨⟨_,h1⟩,h2⟩:=h
   have u7:0 <es.size:=by
    rcases Nat.eq_zero_or_pos es.size with h0|h0
    ·simp[Array.isEmpty,h0] at h1
    exact h0
   have:=h2 0 u7
   have:=hb es[0] (by simp)
   omega
  rw[if_neg bW]
  have ym:(es.filter fun e=> !(⟨seen⟩:Array Nat).contains e.born)=⟨cL es seen⟩:=by
   rcases es with ⟨l⟩
   simp[cL]
  have hold:((⟨cL es seen⟩:Array MapEntry).filter fun e=>decide (e.born <ck))=⟨cL es seen⟩:=by
   have:(cL es seen).filter (fun e=>decide (e.born <ck))=cL es seen:=List.filter_eq_self.2 fun e he=>decide_eq_true (hb e (List.mem_filter.1 he).1)
   simp[this]
  have tb:((⟨cL es seen⟩:Array MapEntry).filter fun e=>decide (e.born≥ck))=⟨[]⟩:=by
   have:(cL es seen).filter (fun e=>decide (e.born≥ck))=[]:=List.filter_eq_nil_iff.2 fun e he=>by
    have:=hb e (List.mem_filter.1 he).1
    simp only[decide_eq_true_eq];omega
   simp[this]
  simp only[ym,hold,tb]
  cases hl:cL es seen with
  |nil=>
   simp only[List.isEmpty_toArray,List.isEmpty_nil,if_true]
   refine JW (by simp) fun j hj=>?_
   have hc:(#[(none:Option MapEntry)]++((⟨[]⟩:Array MapEntry)++⟨[]⟩).map some)[j]?=some none:=by
    simp at hj
    subst hj;simp
   show bP X.P ((match (#[(none:Option MapEntry)]++((⟨[]⟩:Array MapEntry)++⟨[]⟩).map some)[j]? with|some (some e)=>_|some none=>_|none=>_) >>= fun v=>pure (Next.value v)) _ _ _
   rw[hc]
   exact hQ _ _ (.inr ⟨hl,rfl,rfl⟩)
  |cons e0 l=>
   have hem:(⟨e0::l⟩:Array MapEntry).isEmpty=false:=by simp
   simp only[hem,Bool.false_eq_true,if_false]
   have HD:(#[]++((⟨e0::l⟩:Array MapEntry)++⟨[]⟩).map some:Array (Option MapEntry))=⟨(e0::l).map some⟩:=by simp
   rw[HD]
   refine JW (by simp) fun k cI=>?_
   have cI:k <(e0::l).length:=by simpa using cI
   have hk:(⟨(e0::l).map some⟩:Array (Option MapEntry))[k]?=some (some (e0::l)[k]):=by
    rw[List.getElem?_toArray,List.getElem?_map,List.getElem?_eq_getElem cI];rfl
   show bP X.P ((match (⟨(e0::l).map some⟩:Array (Option MapEntry))[k]? with|some (some e)=>_|some none=>_|none=>_) >>= fun v=>pure (Next.value v)) _ _ _
   rw[hk]
   simp only[aa]
   have mX:(⟨X.ro,[(it,Obj.mapIter (some r) ck ⟨seen⟩ ck)]++R⟩:St).rw=[]++(it,Obj.mapIter (some r) ck ⟨seen⟩ ck)::R:=rfl
   refine ee (o:= .mapIter (some r) ck ((⟨seen⟩:Array Nat).push (e0::l)[k].born) ck) rfl mX rfl ?_
   have hp:(⟨seen⟩:Array Nat).push (e0::l)[k].born=⟨seen++[(e0::l)[k].born]⟩:=by simp
   rw[hp]
   have:=hQ (.tuple ⟨[.bool true,(e0::l)[k].key,(e0::l)[k].val]⟩) [(it,uL r ck (seen++[(e0::l)[k].born]))] (.inl ⟨_,by rw[hl];exact List.getElem_mem cI,rfl,rfl⟩)
   exact this
 rcases pz with ⟨e,he,rfl,rfl⟩| ⟨h1,rfl,rfl⟩
 ·have:(e.key,e.val)∈F.map (fun x=>(kv x.1,x.2)):=by
   rw[←hE.1];exact List.mem_map_of_mem (f:=fun e:MapEntry=>(e.key,e.val)) (List.mem_filter.1 he).1
  obtain⟨⟨k,v⟩,h1,h2⟩:=List.mem_map.1 this
  simp only[Prod.mk.injEq] at h2
  have:=hT k v e h1 he h2.1.symm h2.2.symm
  rwa[h2.1,h2.2] at this
 exact hF h1
theorem jmE{kv:κ→Value}{F:List (κ×Value)}{es:Array MapEntry}{e:MapEntry}{k:κ}{v:Value}(i:Nat)(hm:X.ro r=some (.map es ck))(hE:tA kv F es ck)(he:e∈cL es seen)(hk:e.key=kv k)(hvl:e.val=v)
 (hj:J X (m9 [i] (.tuple ⟨[kv k,v]⟩) [(it,uL r ck (seen++[e.born]))] o))
 (hv:eR X.n (enV X.n) o=some (.pointer (some ⟨it,0,none⟩)):=by kernel_rfl)(hB:dM [i] o=some [(it,uL r ck (seen++[e.born]))]:=by kernel_rfl):J X o:=by
 refine jS (Φ:=fun w L'=>w= .tuple ⟨[kv k,v]⟩∧L'=[(it,uL r ck (seen++[e.born]))]) [i] _ hv hB (fun p en hf=>?_) (fun w L' pz=>?_)
 ·unfold enV at hf
  split at hf<;>try (cases hf;done)
  rename_i x ay
  refine⟨by rw[ay];simp,fun R Q E hQ=>?_⟩
  simp only[execOp,ay,Instr.entry,aa,aH hf]
  have hs:(⟨X.ro,[(it,uL r ck (seen++[e.born]))]++R⟩:St).rw=[]++(it,uL r ck (seen++[e.born]))::R:=rfl
  refine cG (o:=uL r ck (seen++[e.born])) (.inr (by rw[hs];exact fo)) rfl rfl ?_
  have sa:(⟨seen++[e.born]⟩:Array Nat).back?=some e.born:=by simp[Array.back?]
  simp only[uL,sa,aa]
  refine cG (.inl hm) rfl rfl ?_
  have hfe:es.find? (fun x=>x.born==e.born)=some e:=by
   rcases es with ⟨l⟩
   have hel:e∈l:=(List.mem_filter.1 he).1
   have mb:(l.map (·.born)).Nodup:=hE.2.1
   simp only[List.find?_toArray]
   clear hm hE he hj hv hB hs hQ
   induction l with
   |nil=>cases hel
   |cons y l ih=>
    simp only[List.map_cons,List.nodup_cons,List.mem_map,not_exists,not_and] at mb
    rcases List.mem_cons.1 hel with rfl|h
    ·simp
    have:y.born≠e.born:=fun h2=>mb.1 e h h2.symm
    rw[List.find?_cons_of_neg (by simpa using this)]
    exact ih h mb.2
  simp only[bne_self_eq_false,Bool.false_eq_true,if_false,hfe,ae,aa]
  exact hQ _ _ ⟨by rw[hk,hvl],rfl⟩
 obtain⟨rfl,rfl⟩:=pz
 exact hj
end
theorem U2{kv:κ→Value}{F:List (κ×Value)}{es:Array MapEntry}(hE:tA kv F es ck){e x:MapEntry}(he:e∈cL es seen)(hx:x∈cL es seen):x=e∨x∈cL es (seen++[e.born]):=by
 by_cases h:x.born=e.born
 ·left
  have mb:=hE.2.1
  have h1:=(List.mem_filter.1 he).1
  have h2:=(List.mem_filter.1 hx).1
  generalize es.toList=l at mb h1 h2
  induction l with
  |nil=>cases h1
  |cons y l ih=>
   simp only[List.map_cons,List.nodup_cons,List.mem_map,not_exists,not_and] at mb
   rcases List.mem_cons.1 h1 with k1|k1
   ·rcases List.mem_cons.1 h2 with k2|k2
    ·rw[k1,k2]
    exact absurd (by rw[h,k1]) (mb.1 x k2)
   rcases List.mem_cons.1 h2 with k2|k2
   ·exact absurd (by rw[←h,k2]) (mb.1 e k1)
   exact ih mb.2 k1 k2
 exact .inr (abp.2 ⟨hx,h⟩)
def msV(P:Program)(n:Nat)(p:Oper)(e:Env):Option (TypeId×List Value):=match p.op with
 | .makeSlice T x y=>match aZ P T with
  |some ⟨.slice E,_,_,_⟩=>match aZ P E with
   |some te=>match bp n e x,bp n e y with
    |some (.int .i64 a),some (.int .i64 b)=>bif (decide (a=2)&&decide (b=2))&&(Nat.beq te.size 1&&Nat.ble (tH P E) 65536) then some (E,te.zero) else none
    |_,_=>none
   |none=>none
  |_=>none
 |_=>none
theorem jmS{X:Cx}{z:Value}(hj:∀b,J X (m9 [] (.slice (some ⟨b,0,none⟩) 2 2) [(b,.cells ⟨[z,z]⟩ E (0,0))] o))(hv:eR X.n (msV X.P X.n) o=some (E,[z]):=by kernel_rfl)(hB:dM [] o=some []:=by kernel_rfl):J X o:=by
 refine jS (Φ:=fun v L'=>∃b,v= .slice (some ⟨b,0,none⟩) 2 2∧L'=[(b,.cells ⟨[z,z]⟩ E (0,0))]) [] [] hv hB (fun p e hf=>?_) (fun v L' pz=>?_)
 ·unfold msV at hf
  split at hf<;>try (cases hf;done)
  rename_i T x y ay
  split at hf<;>try (cases hf;done)
  rename_i E' _ _ _ dL
  split at hf<;>try (cases hf;done)
  rename_i te ug
  split at hf<;>try (cases hf;done)
  rename_i a b hx hy
  cases hc:((decide (a=2)&&decide (b=2))&&(Nat.beq te.size 1&&Nat.ble (tH X.P E') 65536)) with
  |false=>rw[hc] at hf;cases hf
  |true=>
   rw[hc] at hf
   simp only[cond_true,Option.some.injEq,Prod.mk.injEq] at hf
   obtain⟨rfl,hz⟩:=hf
   simp only[Bool.and_eq_true,decide_eq_true_eq,Nat.beq_eq,Nat.ble_eq] at hc
   obtain⟨⟨rfl,rfl⟩,u7,hby⟩:=hc
   obtain⟨byT,tf⟩:=av dL
   obtain⟨bD,jN⟩:=av ug
   obtain⟨i,hi,hi1,RQ,hi3⟩:=jN.info
   have aox:bD≤65536:=by simp only[tH,hi] at hby;omega
   have axC:¬((bD:Int)*2>2^48):=by omega
   have w2:IntKind.i64.wrap 2=2:=ky 2 (by omega)
   have iL:(Pf [z] te.agg).cells=⟨[z]⟩:=by rw[←hz];exact dS jN
   have HD:((Array.range ((2:Int).toNat*1)).map fun x=>(⟨[z]⟩:Array Value)[x % (⟨[z]⟩:Array Value).size]!)=⟨[z,z]⟩:=by apply Array.ext';simp[Nat.mod_one,List.range,List.range.loop]
   refine⟨by rw[ay];simp,fun R Q E hQ=>?_⟩
   simp only[execOp,ay,Instr.makeSlice,aH hx,aH hy,asInt,asIntOf,aa,a8 tf,ae,nA hi,RQ,w2,axC,show ¬((2:Int) <0) by omega,show ¬((2:Int)>2) by omega,decide_false,Bool.or_self,Bool.false_eq_true,if_false]
   refine sG ?_
   simp only[aa,cv jN,u7,show ¬((2:Int).toNat*1=0) by decide,if_false,jT jN,ae,hz,iL,HD,jo]
   intro b hb
   exact hQ _ _ ⟨b,rfl,rfl⟩
 obtain⟨b,rfl,rfl⟩:=pz
 exact hj b
def apr(body:Code):Option JS→Option (JS×Nat)
 |some ⟨.fin .normal,e,.b c oc:: .b b (.loop r)::w,kn⟩=>match r.state with
  | .ready=>some (⟨.code body [],e,.b c oc:: .b b (.loop {r with state:= .busy})::w,kn⟩,b)
  |_=>none
 |_=>none
theorem aEf{X:Cx}{bl:Nat}{body:Code}(h:J (X.re bl ro Φ) (EI (apr body o)))(h1:Uj (apr body o)=some bl:=by kernel_rfl):J (X.rd bl ro Φ body) o:=by
 unfold apr at h h1
 split at h<;>try (unfold EI at h;exact h.elim)
 rename_i e c oc b r w kn
 split at h<;>try (unfold EI at h;exact h.elim)
 rename_i bW
 unfold Uj at h1
 unfold EI at h
 simp only[bW,Option.some.injEq] at h1
 subst h1
 intro bY
 have hw:=h bY
 simp only[JP,Cx.rd,Iy,Dp]
 refine⟨[(c,oc)],r,den w,by rw[iH,iH];rfl,bW,?_⟩
 simp only[JP,iH] at hw
 exact hw
theorem aEc{hm:P.follows .mixedOrders=true}(own:List Sg)(kn:Cells)(hk:Knows ro kn)(h:J (XM P hm f ro R) (jD P f args own kn)):Fn (CP P) P f ⟨args⟩ ⟨ro,den own⟩ R:=by
 unfold jD at h
 split at h<;>try exact h.elim
 rename_i fn hf
 split at h<;>try exact h.elim
 rename_i c hc
 cases hl:Nat.ble args.length fn.ntmps with
 |false=>rw[hl] at h;exact h.elim
 |true=>
  rw[hl] at h
  have uM:qx P f=fn:=by simp only[qx,hf]
  have:=h hk
  simp only[JP,XM,KQ,uM] at this
  refine LD eN hf hc ?_
  have he:=kN args fn.ntmps (Nat.le_of_ble_eq_true hl)
  rw[←he] at this
  exact this
section
variable {X:Cx} {o:Option JS}
theorem aOp{uy:List Nat}(hq:QM X R uy)(v:Value)(pm hs ps:List Nat)(Y:Cells)(fx:Sub px X.ro)(hR:R (.returned v) ⟨px,Y⟩)(h0:dM pm o=some (mk uy):=by kernel_rfl)(h1:qU (iu X.P X.n X.fn hs (Dc pm o))=some v:=by kernel_rfl)(h2:Pc (iu X.P X.n X.fn hs (Dc pm o))=Pb (iu X.P X.n X.fn hs (Dc pm o)):=by kernel_rfl)(h3:dM ps (Dc pm o)=some Y:=by kernel_rfl)(h4:zr o=true:=by kernel_rfl):J X o:=by
 obtain⟨ex,e,w,kn,rfl,hex⟩:=tq h4
 simp only[Dc,iu] at h1 h2 h3
 cases hr:B8 X.P X.n e (dC pm 0 w) kn.c hs (qx X.P X.fn).results.toList with
 |none=>simp only[hr,qU] at h1;cases h1
 |some x=>
  rcases x with ⟨vs,q⟩
  simp only[hr,qU,Option.some.injEq,Pc,Pb] at h1 h2
  intro bY
  have r8:=tM bY hr (me h2)
  have hp:=bJ h3
  have Fa:=P9 (s0:=⟨px,Y⟩) (R:=R) hex r8 h1 (dK hp fx) hR
  have ht:bP X.P (results (qx X.P X.fn) (A X.n e X.D).tmps) ⟨X.ro,den (dC pm 0 w)⟩ (fun v s'=>∃s0,s0.le s'∧R (.returned v) s0) (fun _ _=>False):=by
   rcases hex with rfl|rfl<;>exact Fa.2
  show X.Q ex (A X.n e X.D) ⟨X.ro,den w⟩
  rw[hq.q]
  have hm:∃uy rest,(A X.n e X.D).defers=uy.map dW∧(den w).Perm (mk uy++rest)∧bP X.P (results (qx X.P X.fn) (A X.n e X.D).tmps) ⟨X.ro,rest⟩ (fun v s'=>∃s0,s0.le s'∧R (.returned v) s0) (fun _ _=>False):=⟨uy,_,hq.d,bJ h0,ht⟩
  rcases hex with rfl|rfl<;>exact hm
end
attribute [irreducible] mrV nmV enV uL msV apr
def rnM(P:Program):Sem α→List Nat→Cells→List (Nat×Nat)→Option (α×Cells×List (Nat×Nat))
 | .pure a,_,B,q=>some (a,B,q)
 | .load m a k,h::hs,B,q=>match m,a.spot,B[h]? with
  | .plain,none,some (b,.cells c _ _)=>match c[a.off]? with
   |some v=>rnM P (k v) hs B ((a.block,b)::q)
   |none=>none
  |_,_,_=>none
 | .shape r k,h::hs,B,q=>match B[h]? with
  |some (b,o)=>rnM P (k (Obj.shapeOf o)) hs B ((r,b)::q)
  |none=>none
 | .program k,hs,B,q=>rnM P (k P) hs B q
 |_,_,_,_=>none
theorem atX:∀(m:Sem α) {hs:List Nat} {B B':Cells} {q q':List (Nat×Nat)} {v:α},rnM P m hs B q=some (v,B',q')→(∀p∈q',p.1=p.2)→
 (∀p∈q,p∈q')∧B'=B∧∀(s:St) (Q:α→St→Prop) (E:Halt→St→Prop),(∀x∈B,s.has x.1 x.2)→Q v s→bP P m s Q E:=by
 intro m
 induction m with
 |pure a=>intro hs B B' q q' v h _;simp only[rnM,Option.some.injEq,Prod.mk.injEq] at h;obtain⟨rfl,rfl,rfl⟩:=h;exact⟨fun _ h=>h,rfl,fun _ _ _ _ h=>h⟩
 |load m a k ih=>
  intro hs B B' q q' v h hq
  cases hs with
  |nil=>cases h
  |cons j hs=>
   unfold rnM at h
   split at h<;>try (cases h;done)
   rename_i b c t fz O3 hB
   split at h<;>try (cases h;done)
   rename_i u hu
   obtain⟨h1,h2,h3⟩:=ih _ h hq
   have xG:a.block=b:=hq _ (h1 _ List.mem_cons_self)
   refine⟨fun p hp=>h1 p (List.mem_cons_of_mem _ hp),h2,fun s Q E hs hQ=>⟨rfl,O3,c,t,fz,u,?_,hu,h3 s Q E hs hQ⟩⟩
   rw[xG];exact hs _ (List.mem_of_getElem? hB)
 |shape r k ih=>
  intro hs B B' q q' v h hq
  cases hs with
  |nil=>cases h
  |cons j hs=>
   simp only[rnM] at h
   split at h<;>try (cases h;done)
   rename_i b o hB
   obtain⟨h1,h2,h3⟩:=ih _ h hq
   have xG:r=b:=hq _ (h1 _ List.mem_cons_self)
   refine⟨fun p hp=>h1 p (List.mem_cons_of_mem _ hp),h2,fun s Q E hs hQ=>⟨o,?_,h3 s Q E hs hQ⟩⟩
   rw[xG];exact hs _ (List.mem_of_getElem? hB)
 |program k ih=>
  intro hs B B' q q' v h hq
  simp only[rnM] at h
  exact ih _ h hq
 |store=>intro hs B B' q q' v h hq;cases hs<;>cases h
 |new=>intro hs B B' q q' v h hq;cases hs<;>cases h
 |freeze=>intro hs B B' q q' v h hq;cases hs<;>cases h
 |frozen=>intro hs B B' q q' v h hq;cases hs<;>cases h
 |getObj=>intro hs B B' q q' v h hq;cases hs<;>cases h
 |setObj=>intro hs B B' q q' v h hq;cases hs<;>cases h
 |choose=>intro hs B B' q q' v h hq;cases hs<;>cases h
 |sys=>intro hs B B' q q' v h hq;cases hs<;>cases h
 |mark=>intro hs B B' q q' v h hq;cases hs<;>cases h
 |halt=>intro hs B B' q q' v h hq;cases hs<;>cases h
def aex:Op→Option (List Operand)
 | .call ⟨.builtin _,xs,_⟩=>some xs.toList
 |op=>Gy op
theorem P6{o:Oper}{xs:List Operand}(h:aex o.op=some xs){f g:Operand→Value}(hfg:∀x∈xs,f x=g x):execOp f o=execOp g o:=by
 unfold aex at h
 split at h
 ·rename_i b xs at_ heq
  simp only[Option.some.injEq] at h;subst h
  have:xs.map f=xs.map g:=Array.map_congr_left fun a ha=>hfg a (by simpa using ha)
  simp only[execOp,heq,resolve,this]
 exact tP h hfg
def smV(P:Program)(n:Nat)(hs:List Nat)(B:Cells)(p:Oper)(e:Env):Option (Value×List (Nat×Nat)):=match aex p.op with
 |some xs=>match yc n e xs with
  |some _=>match rnM P (execOp (evj n e) p) hs B [] with
   |some (.value v,_,q)=>some (v,q)
   |_=>none
  |none=>none
 |none=>none
theorem BZ{γ:Type}{f:Oper→Env→Option β}{g:β→γ}:eR n (fun p e=>(f p e).map g) o=(eR n f o).map g:=by
 unfold eR
 split
 ·unfold dF
  dsimp only
  split<;>rfl
 rfl
def smA(P:Program)(n:Nat)(hs:List Nat)(B:Cells)(p:Oper)(e:Env):Option Value:=(smV P n hs B p e).map (·.1)
def smL(P:Program)(n:Nat)(hs:List Nat)(B:Cells)(p:Oper)(e:Env):Option (List Nat):=(smV P n hs B p e).map fun x=>Wb x.2
def smR(P:Program)(n:Nat)(hs:List Nat)(B:Cells)(p:Oper)(e:Env):Option (List Nat):=(smV P n hs B p e).map fun x=>Ui x.2
section
variable {X:Cx} {o:Option JS}
theorem jmo(ps hs:List Nat)(B:Cells)(v:Value)(hj:J X (m9 ps v B o))(hv:eR X.n (smA X.P X.n hs B) o=some v:=by kernel_rfl)(hq:eR X.n (smL X.P X.n hs B) o=eR X.n (smR X.P X.n hs B) o:=by kernel_rfl)(hB:dM ps o=some B:=by kernel_rfl):J X o:=by
 rw[show smA X.P X.n hs B=fun p e=>(smV X.P X.n hs B p e).map (·.1) from rfl,BZ] at hv
 rw[show smL X.P X.n hs B=fun p e=>(smV X.P X.n hs B p e).map (fun x=>Wb x.2) from rfl,show smR X.P X.n hs B=fun p e=>(smV X.P X.n hs B p e).map (fun x=>Ui x.2) from rfl,BZ,BZ] at hq
 cases hx:eR X.n (smV X.P X.n hs B) o with
 |none=>rw[hx] at hv;cases hv
 |some x=>
  rcases x with ⟨v',q⟩
  rw[hx] at hv hq
  simp only[Option.map_some,Option.some.injEq] at hv hq
  subst hv
  refine jS (Φ:=fun u L'=>u=v'∧L'=B) ps B hx hB (fun p e hf=>?_) (fun u L' pz=>by obtain⟨rfl,rfl⟩:=pz;exact hj)
  unfold smV at hf
  split at hf<;>try (cases hf;done)
  rename_i xs ay
  split at hf<;>try (cases hf;done)
  rename_i ws TE
  split at hf<;>try (cases hf;done)
  rename_i u B' q2 bX
  simp only[Option.some.injEq,Prod.mk.injEq] at hf
  obtain⟨rfl,rfl⟩:=hf
  refine⟨fun c hc=>?_,fun R Q E hQ=>?_⟩
  ·rw[hc] at ay;cases ay
  rw[P6 ay (N9 (f:=ev X.n e) (fun x v h=>aH h) TE)]
  obtain⟨_,_,h3⟩:=atX _ bX (me hq)
  exact h3 _ _ _ (fun x hx=> .inr (List.mem_append_left _ hx)) (hQ _ _ ⟨rfl,rfl⟩)
theorem H6:∀(n t:Nat) (acc:Array Value),(Extern.BytealgMakeNoZero.digits n t acc).size=acc.size+n
 |0,_,_=>rfl
 |n+1,t,acc=>by
  simp only[Extern.BytealgMakeNoZero.digits,H6 n,Array.size_push];omega
theorem jnz{ps rs:Array TypeId}{T:TypeId}{z:List Value}(ef:EF X.P f (Extern.BytealgMakeNoZero.makeNoZero ps rs))(hT:rs[0]?=some T) (tf:TF X.P T (.slice E) sz bD z ag) (hn:n≤1000)
 (hj:∀b l,n≤l.length→J X (m9 [] (.slice (some ⟨b,0,none⟩) n l.length) [(b,.cells ⟨l⟩ E (0,0))] o)) (hv:eR X.n (ajA X.n) o=some (f,[.int .i64 (n:Int)]):=by kernel_rfl) (hB:dM [] o=some []:=by kernel_rfl):J X o:=by
 obtain⟨ops,i,todo,k,e,w,kn,p,rfl,ho,hw,hc⟩:=dz hv
 obtain⟨xs,at_,ay,hx⟩:=N8 hc
 intro bY
 rcases p with ⟨dst,op,ty,pos,cZ,g⟩
 dsimp only at ay;subst ay
 refine afH X.hC ho hw ef hx ?_
 have eM:Extern.BytealgMakeNoZero.makeNoZero ps rs ⟨[Value.int .i64 (n:Int)]⟩=(do
  let some t:=rs[0]?|stuck "bytealg.MakeNoZero: no result type"
  let .slice elem ←underlying t|stuck "bytealg.MakeNoZero: slice type expected"
  if (n:Int) <0||(n:Int)>2^48 then runtimePanic (.error "makeslice: len out of range")
  let cap ←choose (.appendCap (n:Int).toNat 0 elem)
  askRoom cap
  let bytes ←choose (.extern "internal/bytealg.MakeNoZero.bytes" 0)
  let a ←newRow elem (Extern.BytealgMakeNoZero.digits cap bytes #[])
  pure (.slice (some a) (n:Int).toNat cap)):=rfl
 rw[eM]
 simp only[hT,a8 tf]
 rw[if_neg (by simp only[Bool.or_eq_true,decide_eq_true_eq];omega)]
 refine aed rfl fun q=>?_
 refine sG ?_
 show (if (Question.extern "internal/bytealg.MakeNoZero.bytes" 0).forced=true then _ else _)
 have key:∀cap bytes,n≤cap→bP X.P (newRow E (Extern.BytealgMakeNoZero.digits cap bytes #[]) >>= fun a=>pure (Value.slice (some a) ((n:Int).toNat) cap)) ⟨X.ro,den w⟩ (fun v s'=>ab X.C X.fn X.az ops todo (KQ X k) (A X.n (upd dst v e) X.D) s') (fun _ _=>False):=by
  intro cap bytes oI
  rw[jo]
  intro b hb
  have hl:(Extern.BytealgMakeNoZero.digits cap bytes #[]).toList.length=cap:=by
   rw[Array.length_toList,H6];simp
  have:=hj b (Extern.BytealgMakeNoZero.digits cap bytes #[]).toList (by omega)
  rw[oe ho] at this
  have:=this bY
  simp only[JP,gp,hl,xK] at this
  exact this
 split
 ·exact key _ _ (by show n≤(n:Int).toNat+_;rw[Int.toNat_natCast];exact Nat.le_add_right _ _)
 exact fun q2=>key _ _ (by show n≤(n:Int).toNat+_;rw[Int.toNat_natCast];exact Nat.le_add_right _ _)
def sdV(n:Nat)(p:Oper)(e:Env):Option (Addr×Nat×Nat):=match p.op with
 | .call ⟨.builtin .unsafeSliceData,xs,_⟩=>match yc n e xs.toList with
  |some [.slice (some a) l c]=>some (a,l,c)
  |_=>none
 |_=>none
theorem jsd{a:Addr}{l c:Nat}(h:c≠0)(hj:J X (m9 [] (.pointer (some a)) [] o))(hv:eR X.n (sdV X.n) o=some (a,l,c):=by kernel_rfl)(hB:dM [] o=some []:=by kernel_rfl):J X o:=by
 refine jS (Φ:=fun u L'=>u= .pointer (some a)∧L'=[]) [] [] hv hB (fun p e hf=>?_) (fun u L' pz=>by obtain⟨rfl,rfl⟩:=pz;exact hj)
 unfold sdV at hf
 split at hf<;>try (cases hf;done)
 rename_i xs at_ ay
 split at hf<;>try (cases hf;done)
 rename_i a' l' c' hx
 simp only[Option.some.injEq,Prod.mk.injEq] at hf
 obtain⟨rfl,rfl,rfl⟩:=hf
 refine⟨by rw[ay];simp,fun R Q E hQ=>?_⟩
 have e1:Builtin.unsafeSliceData_ at_ p.type ⟨[.slice (some a') l' c']⟩=pure (.pointer (some a')):=by
  show (if c'≠0 then _ else _)=_
  rw[if_pos h]
 simp only[execOp,ay,resolve,sg (show vx X.n e xs=_ from hx),ae,invoke,builtin,e1]
 exact hQ _ _ ⟨rfl,rfl⟩
def usV(P:Program)(n:Nat)(p:Oper)(e:Env):Option (Nat×TypeId):=match p.op with
 | .call ⟨.builtin .unsafeString,xs,at_⟩=>match at_[0]? with
  |some pt=>match aZ P pt with
   |some ⟨.pointer E,_,_,_⟩=>bif Nat.beq (P.cellsOf E) 1 then (match yc n e xs.toList with
    |some [.pointer (some ⟨b,0,none⟩),.int .i64 1]=>some (b,E)
    |_=>none) else none
   |_=>none
  |none=>none
 |_=>none
theorem jus(ps:List Nat)(x:Int)(l:List Value)(hj:∀L',J X (m9 ps (.string ⟨#[x.toNat.toUInt8]⟩) L' o))(hv:eR X.n (usV X.P X.n) o=some (b,E):=by kernel_rfl)(hB:dM ps o=some [(b,.cells ⟨.int .u8 x::l⟩ E (0,0))]:=by kernel_rfl):J X o:=by
 refine jS (Φ:=fun u L'=>u= .string ⟨#[x.toNat.toUInt8]⟩) ps _ hv hB (fun p e hf=>?_) (fun u L' pz=>by subst pz;exact hj L')
 unfold usV at hf
 split at hf<;>try (cases hf;done)
 rename_i xs at_ ay
 split at hf<;>try (cases hf;done)
 rename_i pt hpt
 split at hf<;>try (cases hf;done)
 rename_i E' _ _ _ dL
 cases hc:Nat.beq (X.P.cellsOf E') 1 with
 |false=>rw[hc] at hf;cases hf
 |true=>
  rw[hc] at hf
  simp only[cond_true] at hf
  split at hf<;>try (cases hf;done)
  rename_i b' hx
  simp only[Option.some.injEq,Prod.mk.injEq] at hf
  obtain⟨rfl,rfl⟩:=hf
  have hc:=Nat.eq_of_beq_eq_true hc
  obtain⟨bD,tf⟩:=av dL
  refine⟨by rw[ay];simp,fun R Q Er hQ=>?_⟩
  have e1:Builtin.unsafeString_ at_ p.type ⟨[.pointer (some ⟨b',0,none⟩),.int .i64 1]⟩=(do
   let n ←asInt (.int .i64 1)
   let some pt:=at_[0]?|stuck "unsafe.String: no argument types"
   if n <0 then runtimePanic (.error "unsafe.String: len out of range")
   if n>IntKind.i64.max then unsupported (.unsafePointer "String: a length above the largest int")
   if n=0 then pure (.string .empty)
   else if ←variablesAt ⟨b',0,none⟩ (←elemOf pt) n.toNat then do
    let s ←loadBytes ⟨b',0,none⟩ .empty n.toNat
    freeze ⟨b',0,none⟩ n.toNat
    pure (.string s)
   else unsupported (.unsafePointer "String: not so many bytes at ptr")):=rfl
  simp only[execOp,ay,resolve,sg (show vx X.n e xs=_ from hx),ae,invoke,builtin,e1]
  simp only[asInt,asIntOf,aa,ae,hpt,show ¬((1:Int) <0) by omega,show ¬((1:Int)>IntKind.i64.max) by decide,show ¬((1:Int)=0) by omega,if_false,elemOf,a8 tf,variablesAt,eJ]
  have hs:(⟨X.ro,[(b',Obj.cells ⟨Value.int .u8 x::l⟩ E' (0,0))]++R⟩:St).rw=[]++(b',Obj.cells ⟨Value.int .u8 x::l⟩ E' (0,0))::R:=rfl
  have hm:(⟨X.ro,[(b',Obj.cells ⟨Value.int .u8 x::l⟩ E' (0,0))]++R⟩:St).has b' (.cells ⟨Value.int .u8 x::l⟩ E' (0,0)):= .inr (by rw[hs];exact fo)
  refine⟨_,hm,?_⟩
  have aFA:=Go.Lib.liesAt_bytes (P:=X.P) hc ((Value.int .u8 x::l).length / X.P.cellsOf E') 1 (by rw[hc];simp)
  have pb:∀ {α β:Type} (a:α) (f:α→Sem β),(Sem.pure a).bind f=f a:=fun _ _=>rfl
  simp only[Obj.shapeOf,List.size_toArray,aa,ae,pb]
  rw[show (1:Int).toNat=1 from rfl,aFA]
  simp only[ae,aa,if_true,loadBytes]
  refine⟨rfl,rfl,_,_,_,.int .u8 x,hm,rfl,?_⟩
  simp only[aa,ae]
  refine(if_neg (by omega:¬(1:Nat)=0)).mpr ?_
  refine⟨[],_,R,hs,?_⟩
  exact hQ (.string ⟨#[x.toNat.toUInt8]⟩) [(b',_)] rfl
def pnV(P:Program)(n:Nat)(p:Oper)(e:Env):Option (Nat×Nat):=match p.op with
 | .binOp .neq T x y _=>match aZ P T with
  |some ⟨.pointer E,_,_,_⟩=>match aZ P E with
   |some te=>bif Nat.blt 0 te.size then (match bp n e x with
    |some (.pointer (some ⟨b,0,none⟩))=>match bp n e y with
     |some (.pointer (some ⟨c,0,none⟩))=>some (b,c)
     |_=>none
    |_=>none) else none
   |none=>none
  |_=>none
 |_=>none
theorem ao8{dep:Nat}{t:TypeId}{sz2 Bx:Nat}{z z2:List Value}{ag2:Bool}(tf:TF P t (.pointer E) sz bD z ag){d:TypeDesc}(qP:TF P E d sz2 Bx z2 ag2)(hs:sz2≠0)(a:Addr):EqD P (dep+1) t (.pointer (some a)) (.pointer (some a)) true:=by
 intro α s kk Q Er
 simp only[Op.equalIn,aa,a8 tf,cv qP,hs,ne_eq,not_false_eq_true,if_true,sameAddr,beq_self_eq_true,ae]
theorem jpn(hj:J X (m9 [] (.bool false) [] o))(hv:eR X.n (pnV X.P X.n) o=some (b,b):=by kernel_rfl)(hB:dM [] o=some []:=by kernel_rfl):J X o:=by
 refine jS (Φ:=fun u L'=>u= .bool false∧L'=[]) [] [] hv hB (fun p e hf=>?_) (fun u L' pz=>by obtain⟨rfl,rfl⟩:=pz;exact hj)
 unfold pnV at hf
 split at hf<;>try (cases hf;done)
 rename_i T x y T2 ay
 split at hf<;>try (cases hf;done)
 rename_i E' _ _ _ dL
 split at hf<;>try (cases hf;done)
 rename_i te ug
 cases hc:Nat.blt 0 te.size with
 |false=>rw[hc] at hf;cases hf
 |true=>
  rw[hc] at hf
  simp only[cond_true] at hf
  split at hf<;>try (cases hf;done)
  rename_i b' hx
  split at hf<;>try (cases hf;done)
  rename_i c' hy
  simp only[Option.some.injEq,Prod.mk.injEq] at hf
  obtain⟨rfl,rfl⟩:=hf
  obtain⟨bD,tf⟩:=av dL
  obtain⟨Bx,qP⟩:=av ug
  have hc:0 <te.size:=by rwa[Nat.blt_eq] at hc
  refine⟨by rw[ay];simp,fun R Q Er hQ=>?_⟩
  have hs:te.size≠0:=by omega
  simp only[execOp,ay,aH hx,aH hy,eqGuard,aa,binOp,Op.equal,Op.maxDepth]
  simp only[Bool.not_true,Bool.false_eq_true,if_false,ae,aa]
  rw[ao8 (dep:=9999) tf qP hs]
  exact hQ _ _ ⟨rfl,rfl⟩
end
attribute [irreducible] smV smA smL smR sdV usV pnV
section
variable {X:Cx} {o:Option JS}
def s0V(P:Program)(n:Nat)(p:Oper)(e:Env):Option (Addr×Nat×Nat):=match p.op with
 | .slice T x none (some y) none=>match aZ P T with
  |some ⟨.slice E,_,_,_⟩=>match aZ P E with
   |some _=>match bp n e x with
    |some (.slice (some ⟨b,0,none⟩) l c)=>match bp n e y with
     |some (.int .i64 0)=>some (⟨b,0,none⟩,l,c)
     |_=>none
    |_=>none
   |none=>none
  |_=>none
 |_=>none
theorem js0{a:Addr}{l c:Nat}(hj:J X (jZ (.slice (some a) 0 c) o))(hv:dF X.n (s0V X.P X.n) o=some (a,l,c):=by kernel_rfl):J X o:=by
 refine jG hv (fun s p e ho hh hf=>?_) hj
 unfold s0V at hf
 split at hf<;>try (cases hf;done)
 rename_i T x y ay
 split at hf<;>try (cases hf;done)
 rename_i E _ _ _ dL
 split at hf<;>try (cases hf;done)
 rename_i te ug
 split at hf<;>try (cases hf;done)
 rename_i b l' c' hx
 split at hf<;>try (cases hf;done)
 rename_i hy
 simp only[Option.some.injEq,Prod.mk.injEq] at hf
 obtain⟨rfl,rfl,rfl⟩:=hf
 obtain⟨bD,tf⟩:=av dL
 obtain⟨Bx,qP⟩:=av ug
 have key:∀s,Yields X.P X.n e p s (.slice (some ⟨b,0,none⟩) 0 c'):=by
  intro s s' mX f hf K E hK
  have hb:(0:Int)≤0∧(0:Int)≤(c':Int):=by omega
  simp only[execOp,ay,Option.map_some,Option.map_none,Instr.sliceAt,Instr.slice,hf _ _ hx,hf _ _ hy,aa,a8 tf,Instr.sliceBounds,Instr.sliceBound,asIntOf,ae,hb,and_self,if_true,cv qP]
  have he:(if c'=0 then (some ⟨b,0,none⟩:Option Addr) else some ((⟨b,0,none⟩:Addr).add (0*te.size)))=some ⟨b,0,none⟩:=by
   split
   ·rfl
   simp[dJ]
  rw[show (0:Int).toNat=0 from rfl,he]
  exact hK
 exact⟨by rw[ay];rfl,fun _=>key _,fun _=>key⟩
end
attribute [irreducible] s0V
section
variable {X:Cx} {o:Option JS}
def cpV(P:Program)(n:Nat)(p:Oper)(e:Env):Option Nat:=match p.op with
 | .call ⟨.builtin .cap,⟨[x]⟩,⟨[T]⟩⟩=>match aZ P T with
  |some ⟨.slice _,_,_,_⟩=>match bp n e x with
   |some (.slice _ _ c)=>some c
   |_=>none
  |_=>none
 |_=>none
theorem jcp{c:Nat}(hj:J X (jZ (.int .i64 (c:Int)) o))(hv:dF X.n (cpV X.P X.n) o=some c:=by kernel_rfl):J X o:=by
 refine jG hv (fun s p e ho hh hf=>?_) hj
 unfold cpV at hf
 split at hf<;>try (cases hf;done)
 rename_i x T ay
 split at hf<;>try (cases hf;done)
 rename_i dL
 split at hf<;>try (cases hf;done)
 rename_i a l c' hx
 simp only[Option.some.injEq] at hf
 subst hf
 obtain⟨bD,tf⟩:=av dL
 have key:∀s,Yields X.P X.n e p s (.int .i64 (c':Int)):=by
  intro s s' mX f hf K E hK
  simp only[execOp,ay,resolve,invoke,builtin,List.map_toArray,List.map_cons,List.map_nil,hf _ _ hx,ae,aa,Builtin.cap_,List.getElem?_toArray,List.getElem?_cons_zero,a8 tf]
  exact hK
 exact⟨by rw[ay];rfl,fun _=>key _,fun _=>key⟩
end
attribute [irreducible] cpV
def tkO(is:List Nat)(o:Option JS):List Sg:=(q6 is o).getD []
theorem aOx{X:Cx}{ι:Type}(is:List Nat)(p:List Nat)(Ks:List (Act→St→Prop))(ef:ι→Env)(wf:ι→List Sg)(Inv:ι→Prop)(μ:ι→Nat)(i0:ι)(h0:Inv i0)(ps:List Nat)(hb:∀i,Inv i→∀K,xf X K ef (fun i=>wf i++tkO is o) Inv μ (μ i)→∀rest,J X (stW X.P X.fn p (Ks++[K]) (ef i++rest) (wf i++tkO is o)))
 (h1:ri (nn (ef i0)) o=some (ef i0):=by kernel_rfl)(hd:∀i,lkE (nn (ef i)) (ef i)=some (ef i):=by intro _;kernel_rfl)(h2:q6 ps o=some (wf i0++tkO is o):=by kernel_rfl)(hp:∀K,JN X.P X.fn p (Ks++[K])=lpB K (yw o):=by intro _;kernel_rfl):J X o:=
 dB p Ks ef (fun i=>wf i++tkO is o) Inv μ i0 h0 ps hb h1 hd h2 hp
attribute [irreducible] tkO
abbrev RCG(ro:Nat→Option Obj)(Φ:Value→(Nat→Option Obj)→Cells→Prop)(fr:Cells):Ending→St→Prop:=fun en s'=>∃v aD Y,en= .returned v∧Sub ro aD∧(⟨aD,Y++fr⟩:St).le s'∧Φ v aD Y
def azg(P:Program)(f:FuncId)(args:List Value)(ro:Nat→Option Obj)(own:Cells)(Φ:Value→(Nat→Option Obj)→Cells→Prop):Prop:=
 ∀fr,Fn (C0 P) P f ⟨args⟩ ⟨ro,own++fr⟩ (RCG ro Φ fr)
theorem aEd(hm:P.follows .mixedOrders=true){Φ:Value→(Nat→Option Obj)→Cells→Prop}{L:Cells}(own:List Sg)(kn:Cells)(hk:Knows ro kn)(h:∀fr,J (XC P hm f ro (RCG ro Φ fr)) (jD P f args (own++[.l fr]) kn))(hL:den own=L:=by rfl):azg P f args ro L Φ:=by
 subst hL
 intro fr
 have h:=h fr
 unfold jD at h
 split at h<;>try exact h.elim
 rename_i fn hf
 split at h<;>try exact h.elim
 rename_i c hc
 cases hl:Nat.ble args.length fn.ntmps with
 |false=>rw[hl] at h;exact h.elim
 |true=>
  rw[hl] at h
  have uM:qx P f=fn:=by simp only[qx,hf]
  have:=h hk
  simp only[JP,XC,KQ,uM] at this
  have hd:den (own++[.l fr])=den own++fr:=by rw[lI];rfl
  rw[hd] at this
  exact Lz xO hf hc hl this
section
variable {X:Cx} {o:Option JS}
theorem avE{vs:List Value}{own:Cells}{Φ:Value→(Nat→Option Obj)→Cells→Prop}(ps:List Nat)(hC:∀main T,X.C main T→C0 X.P main T)(hf:azg X.P f vs X.ro own Φ)(hj:∀v aD Y,Sub X.ro aD→Φ v aD Y→J (X.at aD) (m9 ps v Y o))(h1:eR X.n (yz X.P X.n) o=some (f,vs):=by kernel_rfl)(h2:dM ps o=some own:=by kernel_rfl):J X o:=by
 obtain⟨ops,i,todo,k,e,w,kn,p,rfl,ho,hw,hc⟩:=dz h1
 obtain⟨ff,x,xs,at_,fi,ca,ws,ay,hx,rZ,rfl⟩:=qE hc
 intro bY
 rcases p with ⟨dst,op,ty,pos,cZ,g⟩
 dsimp only at ay;subst ay
 have hp:=bJ h2
 have uM:Fn X.C X.P f ⟨fi++ws++ca⟩ ⟨X.ro,den w⟩ (RCG X.ro Φ (den (dC ps 0 w))):=fun main T hT c cs k1 k2=>
  (X.hC main T hT).mono _ ⟨X.ro,own++den (dC ps 0 w)⟩ _ (dK (J:=[]) (by rw[List.append_nil];exact hp) (Sub.refl _)) (Fn.weaken hC (hf _) main T hT c cs k1 k2)
 refine tY (fi:=⟨fi⟩) (ca:=⟨ca⟩) (ws:=fi++ws++ca) X.hC ho hw hx ff rZ (S7 fi ws ca) uM (fun v' s' hr=>?_) (fun ch s' hr=>by obtain⟨_,_,_,e,_⟩:=hr;cases e) (fun s' hr=>by obtain⟨_,_,_,e,_⟩:=hr;cases e)
 obtain⟨v,aD,Y,hv,hs,hle,pz⟩:=hr
 cases hv
 have:=hj _ aD Y hs pz
 rw[oe ho] at this
 have:=this (bY.up hs)
 simp only[JP,gp,IJ] at this
 exact this.more X.hC hle
theorem avC(hq:QR X (RC px fr Φ))(v:Value)(hs ps:List Nat)(Y:Cells)(fx:Sub px X.ro)(hR:Φ v Y)(h1:qU (iu X.P X.n X.fn hs o)=some v:=by kernel_rfl)(h2:Pc (iu X.P X.n X.fn hs o)=Pb (iu X.P X.n X.fn hs o):=by kernel_rfl)(h3:dM ps o=some (Y++fr):=by kernel_rfl)(h4:zr o=true:=by kernel_rfl):J X o:=
 aL hq v hs ps (Y++fr) fx ⟨v,Y,rfl,St.le_refl _,hR⟩ h1 h2 h3 h4
theorem aOr(hq:QR X (RC px fr Φ))(v:Value)(ps:List Nat)(A B:Cells)(fx:Sub px X.ro)(hR:Φ v (A++B))(h1:qU (iu X.P X.n X.fn [] o)=some v:=by kernel_rfl)(h2:Pc (iu X.P X.n X.fn [] o)=Pb (iu X.P X.n X.fn [] o):=by kernel_rfl)(h3:dM ps o=some (A++(B++fr)):=by kernel_rfl)(h4:zr o=true:=by kernel_rfl):J X o:=
 aL hq v [] ps ((A++B)++fr) fx ⟨v,A++B,rfl,St.le_refl _,hR⟩ h1 h2 (by rw[h3,List.append_assoc]) h4
theorem aOq{Φ:Value→(Nat→Option Obj)→Cells→Prop}(hq:QR X (RCG px Φ fr))(v:Value)(ps:List Nat)(Y:Cells)(fx:Sub px X.ro)(hR:Φ v X.ro Y)(h1:qU (iu X.P X.n X.fn [] o)=some v:=by kernel_rfl)(h2:Pc (iu X.P X.n X.fn [] o)=Pb (iu X.P X.n X.fn [] o):=by kernel_rfl)(h3:dM ps o=some (Y++fr):=by kernel_rfl)(h4:zr o=true:=by kernel_rfl):J X o:=
 aL hq v [] ps (Y++fr) (Sub.refl _) ⟨v,X.ro,Y,rfl,fx,St.le_refl _,hR⟩ h1 h2 h3 h4
end
theorem Ur{fn:Func}{c:Code}{s:St}{os:Os}{out:Array (Nat×ByteArray)}{Post:Value→World→Prop}(hf:P.funcs[f]?=some fn) (hb:fn.body=some c) (hl:Nat.ble args.length fn.ntmps=true) (hi:P.inits.idxOf? f=none)
 (R9:∀v s0 w,R (.returned v) s0→aR s0 w→w.os=os→w.output=out→Post v w) (IX:∀ch s,¬R (.panicked ch) s)
 (h:Wp (C0 P) f none c (rC P fn R) (A fn.ntmps (fJ 0 args) []) s):T0 P os out Post (G (Frame.enter P f ⟨args⟩ .normal) []) s:=by
 have hT:C0 P true (T0 P os out Post):=⟨rfl,os,out,Post,rfl⟩
 have iL:=sH P os out Post
 let b:Frame:={(default:Frame) with fn:=f,kind:= .normal,roundOf:=none}
 have gT:Frame.enter P f ⟨args⟩ .normal=aM b (A fn.ntmps (fJ 0 args) []) [.code c]:=by
  rw[←kN args fn.ntmps (Nat.le_of_ble_eq_true hl)]
  simp[Frame.enter,aM,hf,hb,b]
 rw[gT]
 refine h true _ hT b [] [] rfl (by simp[b]) rfl fun e a' s' q=>?_
 have last:∀(todo:List Item),a'.defers=[]→bP P (results fn a'.tmps) s' (fun v s'=>∃s0,s0.le s'∧R (.returned v) s0) (fun _ _=>False)→T0 P os out Post (G {aM b a' todo with mode:= .returning} []) s':=by
  intro todo hd hr
  refine aav rfl fun w pF tE EA=>?_
  obtain⟨r,es,bX,hl⟩:=gF _ _ _ _ w #[] hr pF
  rw[Array.empty_append] at bX
  cases r with
  |ok v w'=>
   obtain⟨s2,ht,s0,hle,hu⟩:=hl
   refine⟨v,w',seen P f es,s2,?_,R9 v s0 w' hu (aR.of_le hle ht.jK) (ht.os.trans tE) (ht.output.trans EA),ht.sub (iB _ _ _)⟩
   simp only[aM,b,G,stepG,unwind,hf,hd,bX,doReturn,hi,GStep.after,Array.append_empty,Bool.not_true,Bool.false_eq_true,if_false]
  |halt _ _=>obtain⟨_,_,hu⟩:=hl;exact hu.elim
 cases e with
 |normal=>exact iL.go rfl rfl (g':=G {aM b a' [] with mode:= .returning} []) (fun w=>by simp[G,stepG,stepG.exec,aM,b]) (last _ q.1 q.2)
 |ret=>exact fun todo=>iL.go rfl rfl (g':=G {aM b a' (.code .ret::todo) with mode:= .returning} []) (fun w=>by simp[G,stepG,stepG.exec,aM,b]) (last _ q.1 q.2)
 |panic ch=>exact(IX _ _ q.2).elim
 |exit id=>exact q.elim
 |goto l=>exact q.elim
 |outgrown=>exact q.elim
def asy(P:Program)(f:FuncId)(args:List Value)(ro:Nat→Option Obj)(Φ:Value→Cells→Prop):Prop:=
 ∀os out (Post:Value→World→Prop),(∀v Y w,Φ v Y→aR ⟨ro,Y⟩ w→w.os=os→w.output=out→Post v w)→T0 P os out Post (G (Frame.enter P f ⟨args⟩ .normal) []) ⟨ro,[]⟩
theorem aEa(hm:P.follows .mixedOrders=true)(hi:P.inits.idxOf? f=none)(kn:Cells)(hk:Knows ro kn)(h:∀fr,J (XC P hm f ro (RC ro fr Φ)) (jD P f args [.l fr] kn)):asy P f args ro Φ:=by
 intro os out Post R9
 have h:=h []
 unfold jD at h
 split at h<;>try exact h.elim
 rename_i fn hf
 split at h<;>try exact h.elim
 rename_i c hc
 cases hl:Nat.ble args.length fn.ntmps with
 |false=>rw[hl] at h;exact h.elim
 |true=>
  rw[hl] at h
  have uM:qx P f=fn:=by simp only[qx,hf]
  have:=h hk
  simp only[JP,XC,KQ,uM] at this
  refine Ur hf hc hl hi (fun v s0 w hr pF tE EA=>?_) (fun ch s hr=>?_) this
  ·obtain⟨v',Y,e,hle,pz⟩:=hr
   cases e
   refine R9 _ Y w pz ?_ tE EA
   have:=aR.of_le hle pF
   rwa[List.append_nil] at this
  obtain⟨v',Y,e,_⟩:=hr;cases e
open Go.Proofs
theorem ar:Tryz.prog.follows .mixedOrders=true:=by kernel_rfl
theorem zB:(∀a b:Bool,((a&&b)=true)=(a=true∧b=true))∧(∀a b:Bool,((a||b)=true)=(a=true∨b=true))∧(∀a b:Bool,((a&&b)=false)=(a=false∨b=false))∧(∀a b:Bool,((a||b)=false)=(a=false∧b=false))∧(∀b:Bool,((!b)=true)=(b=false))∧(∀b:Bool,((!b)=false)=(b=true))∧(∀(p:Prop) [Decidable p],(decide p=true)=p)∧(∀(p:Prop) [Decidable p],(decide p=false)=¬p)∧((¬True)=False)∧(∀p:Prop,(p∨False)=p)∧(∀p:Prop,(False∨p)=p):=
 ⟨Bool.and_eq_true,Bool.or_eq_true,by simp,by simp,by simp,by simp,by simp,by simp,by simp,by simp,by simp⟩
@[reducible] noncomputable def zT:Program:=Tryz.prog
abbrev zS:Value:= .slice none 0 0
abbrev zP(b:Nat):Value:= .pointer (some ⟨b,0,none⟩)
abbrev zI(n:Int):Value:= .int .i64 n
abbrev zU(n:Int):Value:= .int .u64 n
abbrev zO:List Value:=[zS,zS,zS,zS,zS,zS,zS,zS,zI 0,zI 0,zI 0,zS]
theorem zG(l:List α)(k:Nat)(h:k <l.length:=by omega):∃x,l[k]?=some x:=⟨_,List.getElem?_eq_getElem h⟩
theorem zJ{X:Cx}(t:Nat)(p:Prop)[Decidable p](h1:p→J X (P5 t (.bool true) o))(h2:¬p→J X (P5 t (.bool false) o))(hv:J2 t o=some (.bool (decide p)):=by kernel_rfl):J X o:=
 js t (decide p) (fun h=>h1 (of_decide_eq_true h)) (fun h=>h2 (of_decide_eq_false h)) hv
theorem zD{X:Cx}(k:Nat)(h:J X (res (adv X.P X.n k [] o)))(he:lhs (adv X.P X.n k [] o)=rhs (adv X.P X.n k [] o):=by kernel_rfl):J X o:=jd k [] h he
theorem zL{l:List α}{a:α}(h:l[i]?=some a):a∈l:=List.mem_of_getElem? h
theorem zR{hm:P.follows .mixedOrders=true}(v:Value)(hs ps:List Nat)(Y:Cells)(hR:Φ v Y)(h1:qU (iu P (qx P f).ntmps f hs o)=some v:=by kernel_rfl)(h2:Pc (iu P (qx P f).ntmps f hs o)=Pb (iu P (qx P f).ntmps f hs o):=by kernel_rfl)(h3:dM ps o=some Y:=by kernel_rfl)(h4:zr o=true:=by kernel_rfl):J (X0 P hm f ro (RX ro Φ)) o:=
 aL q0 v hs ps Y (Sub.refl _) ⟨_,_,rfl,rfl,hR⟩ h1 h2 h3 h4
theorem zX{hm:P.follows .mixedOrders=true}(v:Value)(hR:Φ v [])(h1:qU (iu P (qx P f).ntmps f [] o)=some v:=by kernel_rfl)(h2:Pc (iu P (qx P f).ntmps f [] o)=Pb (iu P (qx P f).ntmps f [] o):=by kernel_rfl)(h3:dM [] o=some []:=by kernel_rfl)(h4:zr o=true:=by kernel_rfl):J (X0 P hm f ro (RX ro Φ)) o:=
 zR v [] [] [] hR h1 h2 h3 h4
theorem zE(h:J (X0 Tryz.prog ar f ro (RX ro Φ)) (jD Tryz.prog f args [] [])):dE Tryz.prog f args ro [] Φ:=bw ar [] [] aW h
theorem zC{L:Cells}(own:List Sg)(h:J (X0 Tryz.prog ar f ro (RX ro Φ)) (jD Tryz.prog f args own []))(hL:den own=L:=by rfl):dE Tryz.prog f args ro L Φ:=bw ar own [] aW h hL
@[reducible] def zN(a k:Nat):List Nat:=List.range' a k
theorem zM:(∀l m:List α,(l++m).length=l.length+m.length)∧(∀(a:α) (l:List α),(a::l).length=l.length+1)∧([]:List α).length=0:=⟨fun _ _=>List.length_append,fun _ _=>rfl,rfl⟩
theorem zK{X:Cx}{m:Nat}{e:Env}{o':Option JS}(h:∀o',tt 0 [] o'=tt m [] o→ri (nn e) o'=some e→J X o')(h1:tt 0 [] o'=tt m [] o:=by kernel_rfl)(h2:ri (nn e) o'=some e:=by kernel_rfl):J X o':=h o' h1 h2
def iI(n lo hi:Int):Bool:=decide (lo≤n)&&decide (n≤hi)
theorem eZ{n:Int}:dr zT 78 [zI n,zI lo,zI hi] ro (.bool (iI n lo hi)):=by
 refine zE<|zD 10<|jj 4 [(6,.bool false),(14,.bool ((decide (lo≤n))&&(decide (n≤hi))))] (fun gH=>?_) (fun hj=>?_)
 rotate_left
 refine js 10 (decide (lo≤n)) (fun h1=>?_) (fun h1=>?_)
 ·
  have fp:=h1
  replace fp:=of_decide_eq_true fp
  refine zD 4<|jw 14 (.bool ((decide (lo≤n))&&(decide (n≤hi)))) (w:= .bool (decide (n≤hi))) (by rw[h1]<;>rfl) ?_
  exact zK hj
 ·
  have fp:=h1
  replace fp:=of_decide_eq_false fp
  refine zD 4<|jw 14 (.bool ((decide (lo≤n))&&(decide (n≤hi)))) (w:= .bool false) (by rw[h1]<;>rfl) ?_
  exact zK hj
 refine zD 3<|zX (.bool ((decide (lo≤n))&&(decide (n≤hi)))) ⟨rfl,rfl⟩
theorem iZ{n:Int}:dr zT 200 [zI n,zI lo,zI hi] ro (.bool (iI n lo hi)):=by
 refine zE<|zD 10<|jj 4 [(6,.bool false),(14,.bool ((decide (lo≤n))&&(decide (n≤hi))))] (fun gH=>?_) (fun hj=>?_)
 rotate_left
 refine js 10 (decide (lo≤n)) (fun h1=>?_) (fun h1=>?_)
 ·
  have fp:=h1
  replace fp:=of_decide_eq_true fp
  refine zD 4<|jw 14 (.bool ((decide (lo≤n))&&(decide (n≤hi)))) (w:= .bool (decide (n≤hi))) (by rw[h1]<;>rfl) ?_
  exact zK hj
 ·
  have fp:=h1
  replace fp:=of_decide_eq_false fp
  refine zD 4<|jw 14 (.bool ((decide (lo≤n))&&(decide (n≤hi)))) (w:= .bool false) (by rw[h1]<;>rfl) ?_
  exact zK hj
 refine zD 3<|zX (.bool ((decide (lo≤n))&&(decide (n≤hi)))) ⟨rfl,rfl⟩
def bR(p:α→Bool):List α→Nat→Int
 | [],_=> -1
 |x::l,k=>bif p x then k else bR p l (k+1)
theorem eB{l:List α}{x:α}(h:l[k]?=some x):l.drop k=x::l.drop (k+1):=by
 obtain⟨h1,h2⟩:=List.getElem?_eq_some_iff.1 h
 rw[List.drop_eq_getElem_cons h1,h2]
theorem ep{l:List α}(h:¬k <l.length):l.drop k=[]:=List.drop_eq_nil_of_le (by omega)
theorem jJ{p:α→Bool}{l:List α}{x:α}(h:l[k]?=some x):bR p (l.drop k) k=bif p x then (k:Int) else bR p (l.drop (k+1)) (k+1):=by rw[eB h];rfl
theorem qy{p:α→Bool}{l:List α}(h:¬k <l.length):bR p (l.drop k) k= -1:=by rw[ep h];rfl
abbrev cm(x:Int):List Value:=[zI x]
theorem agL{v:Value}{n:Int}(hl:bC ro v 1 cm xs)(hn:xs.length≤1000000):dr zT 14 [v,zI n] ro (zI (bR (fun y=>decide (y=n)) xs 0)):=by
 obtain⟨fw,rQ,rP,eL,rfl,tO,lM,mC⟩:=hl
 refine zE<|zD 10<|dB [1,0,1,0,0] [] (fun(zz:Nat)=>[(0,.slice fw xs.length eL),(1,zI n),(5,zI (zz:Int))]) (fun zz=>[]) (fun zz=>zz≤xs.length∧bR (fun y=>decide (y=n)) xs 0=bR (fun y=>decide (y=n)) (xs.drop zz) zz) (fun zz=>xs.length-zz) 0 ⟨by omega,rfl⟩ [] ?_
 rintro k hI K1 bF rest
 refine zD 8<|zJ 9 ((k:Int) <(xs.length:Int)) (fun h1=>?_) fun h1=>?_
 ·
  refine zD 8 ?_
  obtain⟨fG,eE⟩:=zG xs k
  refine gY eL 1 lM eE<|jl 0 (mC _ _ eE)<|zD 3<|zJ 17 (fG=n) (fun h2=>?_) fun h2=>?_
  ·
   refine zD 7<|zX (zI (k:Int)) ⟨by rw[hI.2,jJ eE];simp[*],rfl⟩
  refine zD 4<|ja ((k:Int)+1) (by omega)<|zD 2<|bE bF (k+1) ⟨by omega,by rw[hI.2,jJ eE];simp[*]⟩ (by omega) [] (Sub.refl _)
 refine zD 7<|zX (zI (-1)) ⟨by rw[hI.2,qy (by omega)],rfl⟩
def cb(n:Nat):List Int:=(List.range n).map fun(i:Nat)=>(i:Int)
theorem qZ(n:Nat):cb (n+1)=cb n++[(n:Int)]:=by simp[cb,List.range_succ]
theorem fZ(n:Nat):(cb n).length=n:=by simp[cb]
def bK(v:Value)(xs:List Int)(d:Nat)(X:Cells):Prop:=∃(k:Nat) (cM:Int),k≤xs.length∧X=[(d,.cells ⟨[v,zI k,zU cM]⟩ 76 (0,0))]
def Dn(ro:Nat→Option Obj)(v:Value)(xs:List Int):Prop:=bC ro v 1 cm xs∧xs.length≤4611686018427387904
theorem Dn.up{v:Value}(h:Dn ro v xs)(hs:Sub ro aD):Dn aD v xs:=⟨h.1.up hs,h.2⟩
theorem toNonzero{n:Int}(h0:¬n <1)(h1:n≤1000000):IntKind.u64.wrap (n+1)≠0:=by
 rw[sB .u64 rfl _ (by omega) (by simp[IntKind.bits];omega)];omega
theorem toRange{n w:Int}(h0:¬n <1)(h1:n≤1000000)(hw:0≤w):0≤IntKind.i64.wrap (Int.tmod (aT .u64 w 16) (IntKind.u64.wrap (n+1)))∧IntKind.i64.wrap (Int.tmod (aT .u64 w 16) (IntKind.u64.wrap (n+1)))≤n:=by
 have e:IntKind.u64.wrap (n+1)=n+1:=sB .u64 rfl _ (by omega) (by simp[IntKind.bits];omega)
 rw[e]
 have h2:0≤aT .u64 w 16:=Int.fdiv_nonneg hw (by decide)
 have h3:=Int.tmod_nonneg (n+1) h2
 have h4:=Int.tmod_lt_of_pos (aT .u64 w 16) (show 0 <n+1 by omega)
 rw[ky _ (by omega)]
 omega
theorem aTC(hN:Dn ro vd xs)(hD:bK vd xs d X):dE zT 69 [zP d] ro X (fun r Y=>∃w:Int,r= zU w∧0≤w∧w <18446744073709551616∧bK vd xs d Y):=by
 obtain⟨k,cM,hk,rfl⟩:=hD
 obtain⟨hl,hn⟩:=hN
 obtain⟨fw,rQ,rP,eL,rfl,tO,lM,mC⟩:=hl
 refine zC [.b d (.cells ⟨[.slice fw xs.length eL,zI (k:Int),zU cM]⟩ 76 (0,0))]<|jd 19 [0,0]<|aS 13 fun BV B3 An=>jd 1 [0]<|gx An []<|jd 16 [0,0]<|aS 13 fun yD yK ya=>jd 1 [0]<|gx ya []<|jd 16 [0,0]<|aS 13 fun oh ov mZ=>jd 1 [0]<|gx mZ []<|jd 15 [0,0]<|zJ 52 ((k:Int) <(xs.length:Int)) (fun h4=>?_) fun h4=>?_
 ·
  refine jd 16 [0,0,0] ?_
  obtain⟨x66,G7⟩:=zG xs k
  refine gY eL 1 lM G7<|jl 0 (mC _ _ G7)<|zD 5<|aS 20 fun pX p6 oZ=>jd 1 [0]<|gx oZ []<|jd 6 [0]<|ja ((k:Int)+1) (by omega)<|jd 30 [0,0]<|zR (zU (cX .u64 (IntKind.u64.wrap ((cX .u64 (IntKind.u64.wrap ((cX .u64 (cX .u64 (cX .u64 cM (dv .u64 cM 13)) (aT .u64 (cX .u64 cM (dv .u64 cM 13)) 7)) (dv .u64 (cX .u64 (cX .u64 cM (dv .u64 cM 13)) (aT .u64 (cX .u64 cM (dv .u64 cM 13)) 7)) 17))+(IntKind.u64.wrap ((IntKind.u64.wrap x66)*13787848793156543929)))) (aT .u64 (IntKind.u64.wrap ((cX .u64 (cX .u64 (cX .u64 cM (dv .u64 cM 13)) (aT .u64 (cX .u64 cM (dv .u64 cM 13)) 7)) (dv .u64 (cX .u64 (cX .u64 cM (dv .u64 cM 13)) (aT .u64 (cX .u64 cM (dv .u64 cM 13)) 7)) 17))+(IntKind.u64.wrap ((IntKind.u64.wrap x66)*13787848793156543929)))) 30))*10723151780598845931)) (aT .u64 (IntKind.u64.wrap ((cX .u64 (IntKind.u64.wrap ((cX .u64 (cX .u64 (cX .u64 cM (dv .u64 cM 13)) (aT .u64 (cX .u64 cM (dv .u64 cM 13)) 7)) (dv .u64 (cX .u64 (cX .u64 cM (dv .u64 cM 13)) (aT .u64 (cX .u64 cM (dv .u64 cM 13)) 7)) 17))+(IntKind.u64.wrap ((IntKind.u64.wrap x66)*13787848793156543929)))) (aT .u64 (IntKind.u64.wrap ((cX .u64 (cX .u64 (cX .u64 cM (dv .u64 cM 13)) (aT .u64 (cX .u64 cM (dv .u64 cM 13)) 7)) (dv .u64 (cX .u64 (cX .u64 cM (dv .u64 cM 13)) (aT .u64 (cX .u64 cM (dv .u64 cM 13)) 7)) 17))+(IntKind.u64.wrap ((IntKind.u64.wrap x66)*13787848793156543929)))) 30))*10723151780598845931)) 31))) [] [0] [(d,.cells ⟨[.slice fw xs.length eL,zI ((k:Int)+1),zU (IntKind.u64.wrap ((cX .u64 (cX .u64 (cX .u64 cM (dv .u64 cM 13)) (aT .u64 (cX .u64 cM (dv .u64 cM 13)) 7)) (dv .u64 (cX .u64 (cX .u64 cM (dv .u64 cM 13)) (aT .u64 (cX .u64 cM (dv .u64 cM 13)) 7)) 17))+(IntKind.u64.wrap ((IntKind.u64.wrap x66)*13787848793156543929))))]⟩ 76 (0,0))] ⟨_,rfl,(ue _ _).1,(ue _ _).2,k+1,_,(by omega),rfl⟩
 refine jd 28 [0]<|zR (zU (cX .u64 (IntKind.u64.wrap ((cX .u64 (cX .u64 (cX .u64 (cX .u64 cM (dv .u64 cM 13)) (aT .u64 (cX .u64 cM (dv .u64 cM 13)) 7)) (dv .u64 (cX .u64 (cX .u64 cM (dv .u64 cM 13)) (aT .u64 (cX .u64 cM (dv .u64 cM 13)) 7)) 17)) (aT .u64 (cX .u64 (cX .u64 (cX .u64 cM (dv .u64 cM 13)) (aT .u64 (cX .u64 cM (dv .u64 cM 13)) 7)) (dv .u64 (cX .u64 (cX .u64 cM (dv .u64 cM 13)) (aT .u64 (cX .u64 cM (dv .u64 cM 13)) 7)) 17)) 30))*10723151780598845931)) (aT .u64 (IntKind.u64.wrap ((cX .u64 (cX .u64 (cX .u64 (cX .u64 cM (dv .u64 cM 13)) (aT .u64 (cX .u64 cM (dv .u64 cM 13)) 7)) (dv .u64 (cX .u64 (cX .u64 cM (dv .u64 cM 13)) (aT .u64 (cX .u64 cM (dv .u64 cM 13)) 7)) 17)) (aT .u64 (cX .u64 (cX .u64 (cX .u64 cM (dv .u64 cM 13)) (aT .u64 (cX .u64 cM (dv .u64 cM 13)) 7)) (dv .u64 (cX .u64 (cX .u64 cM (dv .u64 cM 13)) (aT .u64 (cX .u64 cM (dv .u64 cM 13)) 7)) 17)) 30))*10723151780598845931)) 31))) [] [0] [(d,.cells ⟨[.slice fw xs.length eL,zI (k:Int),zU (cX .u64 (cX .u64 (cX .u64 cM (dv .u64 cM 13)) (aT .u64 (cX .u64 cM (dv .u64 cM 13)) 7)) (dv .u64 (cX .u64 (cX .u64 cM (dv .u64 cM 13)) (aT .u64 (cX .u64 cM (dv .u64 cM 13)) 7)) 17))]⟩ 76 (0,0))] ⟨_,rfl,(ue _ _).1,(ue _ _).2,k,_,(by omega),rfl⟩
theorem EL{n:Int}(hN:Dn ro vd xs)(hD:bK vd xs d X)(hn:n≤1000000):dE zT 32 [zP d,zI n] ro X (fun r Y=>∃w:Int,r= zI w∧0≤w∧(w≤n∨w=0)∧bK vd xs d Y):=by
 refine zC [.l X]<|zD 10<|zJ 6 (n <1) (fun h1=>?_) fun h1=>?_
 ·
  refine zD 6<|zR (zI 0) [] [0] X ⟨_,rfl,(by omega),(by omega),hD⟩
 refine zD 5<|jc [0] (aTC hN hD) ?_
 rintro _ X8 ⟨w8,rfl,hw8,hx8,hD8⟩
 refine zD 2<|ja (n+1) (by omega)<|zD 1<|jrm (k:= .u64) (a:=(aT .u64 w8 16)) (b:=(IntKind.u64.wrap (n+1))) 74 (toNonzero h1 hn)<|zD 4<|zR (zI (IntKind.i64.wrap (Int.tmod (aT .u64 w8 16) (IntKind.u64.wrap (n+1))))) [] [0] X8 ⟨_,rfl,(toRange h1 hn hw8).1,.inl (toRange h1 hn hw8).2,hD8⟩
theorem Bq(hN:Dn ro vd xs)(hD:bK vd xs d X)(A6: -1000≤lo∧lo≤1000)(hhi: -1000≤hi∧hi≤1000):dE zT 35 [zP d,zI lo,zI hi] ro X (fun r Y=>∃w:Int,r= zI w∧lo≤w∧(w≤hi∨w=lo)∧bK vd xs d Y):=by
 refine zC [.l X]<|zD 10<|ja (hi-lo) (by omega)<|jc (vs:=[zP d,zI (hi-lo)]) [0] (EL hN hD (by omega)) ?_
 rintro _ X12 ⟨w12,rfl,bbM,qi,aS4⟩
 refine ja (lo+w12) (by omega)<|zD 3<|zR (zI (lo+w12)) [] [0] X12 ⟨_,rfl,(by omega),(by omega),aS4⟩
theorem tv{n:Int}(hN:Dn ro vd xs)(hD:bK vd xs d X)(hn:0≤n∧n≤1000):dE zT 29 [zP d,zI n] ro X (fun r Y=>∃w:Bool,r= .bool w∧bK vd xs d Y):=by
 refine zC [.l X]<|zD 8<|ja (n-1) (by omega)<|jc (vs:=[zP d,zI (n-1)]) [0] (EL hN hD (by omega)) ?_
 rintro _ X8 ⟨w8,rfl,hw8,hx8,hD8⟩
 refine zD 4<|zR (.bool (decide (w8=0))) [] [0] X8 ⟨_,rfl,hD8⟩
def bs(l:List Nat):ByteArray:=⟨(l.map UInt8.ofNat).toArray⟩
abbrev pM(x:ByteArray):List Value:=[.string x]
structure bQ where
 f:ByteArray
 t:ByteArray
abbrev iG(x:bQ):List Value:=[.string x.f,.string x.t]
structure aA where
 name:ByteArray
 st:Int
 no:Int
 head:Int
 bold:Bool
abbrev eA(x:aA):List Value:=[.string x.name,.int .i64 x.st,.int .i64 x.no,.int .i64 x.head,.bool x.bold]
structure bM where
 a:Int
 b:Int
 same:Bool
variable {fs:List bM}
abbrev m8(x:bM):List Value:=[.int .i64 x.a,.int .i64 x.b,.bool x.same]
structure bO where
 name:ByteArray
 under:Int
variable {cs:List bO}
abbrev pd(x:bO):List Value:=[.string x.name,.int .i64 x.under]
structure aO where
 k:Int
 st:Int
 ot:Int
 fn:Int
 fl:Int
 tn:Int
 tl:Int
abbrev kO(x:aO):List Value:=[.int .i64 x.k,.int .i64 x.st,.int .i64 x.ot,.int .i64 x.fn,.int .i64 x.fl,.int .i64 x.tn,.int .i64 x.tl]
theorem lZ{ps:List α}{x y:α}(h1:ps[i]?=some x) (h2:ps[k]?=some y):((ps.set i y).set k x).Perm ps:=by
 obtain⟨a,rfl⟩:=List.getElem?_eq_some_iff.1 h1
 obtain⟨b,rfl⟩:=List.getElem?_eq_some_iff.1 h2
 exact List.set_set_perm a b
theorem ajY(hN:Dn ro vd xs)(hD:bK vd xs d X)(hm:bC ro vm 1 cm ys)(hy:0 <ys.length∧ys.length≤1000):dE zT 36 [zP d,vm] ro X (fun r Y=>∃w:Int,r= zI w∧w∈ys∧bK vd xs d Y):=by
 obtain⟨qma,qmb,qmo,qmc,rfl,qmk,qmh,qml⟩:=hm
 refine zC [.l X]<|zD 10<|ja ((ys.length:Int)-1) (by omega)<|jc (vs:=[zP d,zI ((ys.length:Int)-1)]) [0] (EL hN hD (by omega)) ?_
 rintro _ X10 ⟨w10,rfl,ahb,rY,V3⟩
 obtain⟨x11,Vk⟩:=zG ys (w10.toNat)
 refine IU w10 qmc 1 qmh Vk (by omega)<|jl 0 (qml _ _ Vk)<|zD 3<|zR (zI x11) [] [0] X10 ⟨_,rfl,zL Vk,V3⟩
theorem ZA{ys:List ByteArray}(hN:Dn ro vd xs)(hD:bK vd xs d X)(hm:bC ro vm 1 pM ys)(hy:0 <ys.length∧ys.length≤1000):dE zT 11 [zP d,vm] ro X (fun r Y=>∃w:ByteArray,r= .string w∧w∈ys∧bK vd xs d Y):=by
 obtain⟨qma,qmb,qmo,qmc,rfl,qmk,qmh,qml⟩:=hm
 refine zC [.l X]<|zD 10<|ja ((ys.length:Int)-1) (by omega)<|jc (vs:=[zP d,zI ((ys.length:Int)-1)]) [0] (EL hN hD (by omega)) ?_
 rintro _ X10 ⟨w10,rfl,ahb,rY,V3⟩
 obtain⟨x11,Vk⟩:=zG ys (w10.toNat)
 refine IU w10 qmc 1 qmh Vk (by omega)<|jl 0 (qml _ _ Vk)<|zD 3<|zR (.string x11) [] [0] X10 ⟨_,rfl,zL Vk,V3⟩
theorem ajX(hN:Dn ro vd xs)(hD:bK vd xs d X)(hn:n≤100):dE zT 65 [zP d,zI (n:Int)] ro X (fun r Y=>∃(ps:List Int) (L X':Cells),aw r 1 3 cm ps L∧ps.Perm (cb n)∧Y=L++X'∧bK vd xs d X'):=by
 refine zC [.l X]<|zD 14<|n8<|dB [1,1,0,1,0,0] [] (fun(zz:Nat×Value×Cells)=>[(0,zP d),(1,zI (n:Int)),(4,zS),(5,zz.2.1),(6,zI (zz.1:Int))]) (fun zz=>[.l zz.2.2,.l X]) (fun zz=>zz.1≤n∧aw zz.2.1 1 3 cm (cb zz.1) zz.2.2) (fun zz=>n-zz.1) (⟨0,zS,[]⟩) ⟨by omega,aw.nil _ _ _⟩ [0,1] ?_
 rintro⟨k,v,L⟩ hI K1 bF rest
 dsimp only at hI
 refine zD 7<|zJ 12 ((k:Int) <(n:Int)) (fun h1=>?_) fun h1=>?_
 ·
  refine zD 7<|jn fun b17=>iE (sz:=1) (ps:=cb k) (qs:=[(k:Int)]) (enc:=cm) (w:= .slice (some ⟨b17,0,none⟩) 1 1) [1] [0] [(b17,.cells ⟨([(k:Int)].map cm).flatten⟩ 3 (0,0))] (hI.2) (fun s _ hZ=>bN [(k:Int)] (hZ _ (.head _)) (by intro p hp;rfl)) (fun p _=>ai rfl) (by simp[cb];omega) (fun v18 L18 ahC=>?_)
  obtain⟨adW,aam,NN⟩:=ahC.form
  subst NN
  refine zD 4<|ja ((k:Int)+1) (by omega)<|zD 2<|bE bF (⟨k+1,(.slice adW ((cb k++[(k:Int)])).length aam),L18⟩) ⟨by omega,by rw[qZ];exact ahC⟩ (by omega) [0,2] (Sub.refl _)
 refine zD 6<|ja ((n:Int)-1) (by omega)<|zD 3<|dB [1,1,1,0,1,0,0] [] (fun(zz:Int×Value×Cells×(List Int)×Cells)=>[(0,zP d),(4,zS),(5,zz.2.1),(7,zI zz.1)]) (fun zz=>[.l zz.2.2.1,.l zz.2.2.2.2]) (fun zz=>(-1≤zz.1∧zz.1 <n)∧aw zz.2.1 1 3 cm zz.2.2.2.1 zz.2.2.1∧zz.2.2.2.1.Perm (cb n)∧bK vd xs d zz.2.2.2.2) (fun zz=>zz.1.toNat) (⟨(n:Int)-1,v,L,cb k,X⟩) ⟨by omega,hI.2,(by rw[show k=n by omega]),hD⟩ [0,1] ?_
 rintro⟨j,v,L,ps,X⟩ NY K2 kL rest
 dsimp only at NY
 have hlen:ps.length=n:=by rw[NY.2.2.1.length_eq,fZ]
 refine zD 6<|zJ 22 (j>0) (fun h2=>?_) fun h2=>?_
 ·
  refine zD 8<|jc (vs:=[zP d,zI j]) [1] (EL hN NY.2.2.2 (by omega)) ?_
  rintro _ X27 ⟨w27,rfl,bbI,CJ,aSZ⟩
  refine zD 6 ?_
  obtain⟨ku,fO⟩:=zG ps (j.toNat)
  refine mW j 1 NY.2.1 fO (by omega) fun b30 NQ=>kJ 0 [1] L (fun s _ hZ=>bn NY.2.1 NQ hZ fO)<|zD 8 ?_
  obtain⟨x36,za⟩:=zG ps (w27.toNat)
  refine mW w27 1 NY.2.1 za (by omega) fun qX axL=>kJ 0 [1] L (fun s _ hZ=>bn NY.2.1 axL hZ za) ?_
  obtain⟨x38,NA⟩:=zG ps (j.toNat)
  refine mW j 1 NY.2.1 NA (by omega) fun b38 aRS=>E8 1 0 [zI x36] x36 NY.2.1 aRS NA rfl rfl (Nat.le_of_ble_eq_true rfl) fun L3 ho4=>zD 5 ?_
  obtain⟨x42,Vh⟩:=zG ((ps.set j.toNat x36)) (w27.toNat) (by first|omega| (simp only[List.length_set,zM];omega))
  refine mW w27 1 ho4 Vh (by omega) fun b42 aRR=>E8 0 0 [zI ku] ku ho4 aRR Vh rfl rfl (Nat.le_of_ble_eq_true rfl) fun L5 ho6=>zD 3<|ja (j-1) (by omega)<|zD 2<|bE kL (⟨j-1,v,L5,((ps.set j.toNat x36).set w27.toNat ku),X27⟩) ⟨by omega,ho6,(lZ fO za).trans NY.2.2.1,aSZ⟩ (by omega) [0,1] (Sub.refl _)
 refine zD 8<|zR (v) [] [0,1] (L++X) ⟨_,_,_,NY.2.1,NY.2.2.1,rfl,NY.2.2.2⟩
theorem SE(p:Int→Bool)(k:Nat):(cb (k+1)).filter p=bif p (k:Int) then (cb k).filter p++[(k:Int)] else (cb k).filter p:=by
 rw[qZ,List.filter_append]
 cases h:p (k:Int)<;>simp[h]
theorem nD{x:Int}(h:x∈cb n):0≤x∧x <n:=by
 simp only[cb,List.mem_map,List.mem_range] at h
 obtain⟨i,h1,rfl⟩:=h
 omega
theorem rN(n:Nat):(cb n).Pairwise (· < ·):=by
 simp only[cb]
 rw[List.pairwise_map]
 exact List.pairwise_lt_range.imp fun h=>by omega
theorem zu(x:Int)(l:List Int)(k:Nat):x∈l→(k:Int)≤bR (fun y=>decide (y=x)) l k∧∃i,bR (fun y=>decide (y=x)) l k=k+i∧l[i.toNat]?=some x∧0≤i:=by
 induction l generalizing k with
 |nil=>intro h;cases h
 |cons y l ih=>
  intro h
  by_cases e:y=x
  ·subst e
   simp only[bR,decide_true,cond_true]
   exact⟨Int.le_refl _,0,by simp,by simp,by simp⟩
  simp only[bR,e,decide_false,cond_false]
  obtain⟨h1,i,h2,h3,h4⟩:=ih (k+1) ((List.mem_cons.1 h).resolve_left fun e2=>e e2.symm)
  refine⟨by omega,i+1,by rw[h2];omega,?_,by omega⟩
  rw[show (i+1).toNat=i.toNat+1 by omega]
  simpa using h3
theorem afg{q:List Int}(hq:q.Perm (cb n)):((cb n).filter fun i=>decide (bR (fun y=>decide (y=i)) q 0 <many)).length≤many.toNat:=by
 have iW:∀x,x∈cb n→x∈q:=fun x hx=>hq.mem_iff.2 hx
 have h1:(((cb n).filter fun i=>decide (bR (fun y=>decide (y=i)) q 0 <many)).map fun i=>bR (fun y=>decide (y=i)) q 0).Nodup:=by
  rw[List.nodup_iff_pairwise_ne,List.pairwise_map]
  refine((rN n).filter _).imp_of_mem fun {a b} ha hb xG e=>?_
  obtain⟨_,i,e1,g1,_⟩:=zu a q 0 (iW a ((List.mem_filter.1 ha).1))
  obtain⟨_,j,e2,g2,_⟩:=zu b q 0 (iW b ((List.mem_filter.1 hb).1))
  have:i=j:=by omega
  subst this
  rw[g1] at g2
  cases g2
  omega
 have h2:=xA (l₂:=cb many.toNat) h1 fun x hx=>by
  obtain⟨i,h3,rfl⟩:=List.mem_map.1 hx
  obtain⟨h4,h5⟩:=List.mem_filter.1 h3
  have h6:=of_decide_eq_true h5
  obtain⟨h7,_⟩:=zu i q 0 (iW i h4)
  simp only[cb,List.mem_map,List.mem_range]
  exact⟨(bR (fun y=>decide (y=i)) q 0).toNat,by omega,by omega⟩
 simpa [fZ] using h2
theorem JE(p:α→Bool)(l:List α):(l.filter p).length≤l.length:=List.length_filter_le p l
theorem aHT(hN:Dn ro vd xs)(hD:bK vd xs d X)(hn:n≤100):dE zT 67 [zP d,zI (n:Int),zI many] ro X (fun r Y=>∃(ps:List Int) (L X':Cells),aw r 1 3 cm ps L∧ps.length≤many.toNat∧ps.Pairwise (· < ·)∧(∀x∈ps,0≤x∧x <n)∧Y=L++X'∧bK vd xs d X'):=by
 refine zC [.l X]<|zD 8<|jc (vs:=[zP d,zI (n:Int)]) [0] (ajX hN hD (by first|omega|decide)) ?_
 rintro v13 _ ⟨aa0,L13,X13,NH,RA,rfl,aoR⟩
 refine jg 0 [.l L13,.l X13]<|zD 12<|n8<|dB [1,1,1,0,1,0,0] [] (fun(zz:Nat×Value×Cells)=>[(1,zI (n:Int)),(2,zI many),(6,zS),(7,v13),(8,zz.2.1),(9,zI (zz.1:Int))]) (fun zz=>[.l zz.2.2,.l L13,.l X13]) (fun zz=>zz.1≤n∧aw zz.2.1 1 3 cm ((cb zz.1).filter (fun i=>decide (bR (fun y=>decide (y=i)) aa0 0 <many))) zz.2.2) (fun zz=>n-zz.1) (⟨0,zS,[]⟩) ⟨by omega,aw.nil _ _ _⟩ [0,1,2] ?_
 rintro⟨k,v,L⟩ hI K1 bF rest
 dsimp only at hI
 have hlen:aa0.length=n:=by rw[RA.length_eq,fZ]
 have vv:=JE (fun i=>decide (bR (fun y=>decide (y=i)) aa0 0 <many)) (cb k)
 rw[fZ] at vv
 refine zD 7<|zJ 16 ((k:Int) <(n:Int)) (fun h1=>?_) fun h1=>?_
 ·
  refine zD 8<|jp (vs:=[v13,zI (k:Int)]) [1] L13 (fun aG hs hZ=>agL (NH.jW hZ) (by first|omega| (simp only[List.length_set,zM];omega))) ?_
  refine zD 8<|zJ 24 ((bR (fun y=>decide (y=(k:Int))) aa0 0) <many) (fun h2=>?_) fun h2=>?_
  ·
   refine zD 4<|jn fun b27=>iE (sz:=1) (ps:=((cb k).filter (fun i=>decide (bR (fun y=>decide (y=i)) aa0 0 <many)))) (qs:=[(k:Int)]) (enc:=cm) (w:= .slice (some ⟨b27,0,none⟩) 1 1) [1] [0] [(b27,.cells ⟨([(k:Int)].map cm).flatten⟩ 3 (0,0))] (hI.2) (fun s _ hZ=>bN [(k:Int)] (hZ _ (.head _)) (by intro p hp;rfl)) (fun p _=>ai rfl) (by simp only[List.length_cons,List.length_nil];omega) (fun v28 L28 ahy=>?_)
   obtain⟨aLN,aLt,abR⟩:=ahy.form
   subst abR
   refine zD 4<|ja ((k:Int)+1) (by omega)<|zD 2<|bE bF (⟨k+1,(.slice aLN ((((cb k).filter (fun i=>decide (bR (fun y=>decide (y=i)) aa0 0 <many)))++[(k:Int)])).length aLt),L28⟩) ⟨by omega,by rw[SE,decide_eq_true h2];exact ahy⟩ (by omega) [0,2,3] (Sub.refl _)
  refine zD 4<|ja ((k:Int)+1) (by omega)<|zD 2<|bE bF (⟨k+1,v,L⟩) ⟨by omega,by rw[SE,decide_eq_false h2];exact hI.2⟩ (by omega) [0,1,2] (Sub.refl _)
 refine zD 8<|zR (v) [] [0,2] (L++X13) ⟨_,_,_,hI.2,by rw[show k=n by omega];exact afg RA,(rN k).filter _,fun x hx=>by have:=nD ((List.mem_filter.1 hx).1);omega,rfl,aoR⟩
def ar3:List ByteArray:=[bs [101],bs [121],bs [115,104],bs [97],bs [110,110],bs [116,104],bs [109]]
def toW:List ByteArray:=[bs [],bs [105],bs [115],bs [116],bs [97,101],bs [106],bs [110]]
def IG(r:bQ):Prop:=r.f∈ar3∧r.t∈toW
def jA(c:aO):Prop:=c∈[(⟨1,0,0,0,0,0,0⟩:aO),⟨2,0,0,0,0,0,0⟩,⟨1,1,0,0,0,0,0⟩,⟨2,1,0,0,0,0,0⟩,⟨4,1,0,0,0,0,0⟩]
theorem qG{p:α→Prop}{l:List α}{x:α}(h:∀y∈l,p y)(hx:p x):∀y∈l++[x],p y:=fun y hy=>by
 rcases List.mem_append.1 hy with h1|h1
 ·exact h y h1
 rw[List.mem_singleton] at h1;subst h1;exact hx
theorem ayM(hN:Dn ro vd xs)(hD:bK vd xs d X)(hn:0≤many∧many≤100):dE zT 31 [zP d,zI many] ro X (fun r Y=>∃(ps:List bQ) (L X':Cells),aw r 2 45 iG ps L∧ps.length≤many∧(∀r∈ps,IG r)∧Y=L++X'∧bK vd xs d X'):=by
 refine zC [.l X]<|zD 13<|jc (vs:=[zP d,zI many]) [0] (EL hN hD (by omega)) ?_
 rintro _ X10 ⟨w10,rfl,ahb,rY,V3⟩
 refine zD 3<|n8<|dB [1,1,0,1,0,0] [] (fun(zz:Int×Value×Cells×(List bQ)×Cells)=>[(0,zP d),(4,zS),(5,zz.2.1),(6,zI zz.1)]) (fun zz=>[.l zz.2.2.1,.l zz.2.2.2.2]) (fun zz=>(0≤zz.1∧zz.2.2.2.1.length+zz.1≤many)∧aw zz.2.1 2 45 iG zz.2.2.2.1 zz.2.2.1∧(∀r∈zz.2.2.2.1,IG r)∧bK vd xs d zz.2.2.2.2) (fun zz=>zz.1.toNat) (⟨w10,zS,[],[],X10⟩) ⟨by simp only[List.length_nil];omega,aw.nil _ _ _,(fun _ h=>by cases h),V3⟩ [0,1] ?_
 rintro⟨j,v,L,ps,X⟩ hI K1 bF rest
 dsimp only at hI
 refine zD 6<|zJ 12 (j>0) (fun h1=>?_) fun h1=>?_
 ·
  refine zD 7<|jn fun b16=>jcL (vs:=[zP d,.slice (some ⟨b16,0,none⟩) 7 7]) [2] [0] [(b16,.cells ⟨([(bs [101]),(bs [121]),(bs [115,104]),(bs [97]),(bs [110,110]),(bs [116,104]),(bs [109])].map pM).flatten⟩ 9 (0,0))] (fun aG hs hZ=>ZA (hN.up hs) hI.2.2.2 (bU [(bs [101]),(bs [121]),(bs [115,104]),(bs [97]),(bs [110,110]),(bs [116,104]),(bs [109])] hZ.head (by intro p hp;rfl)) (by decide)) ?_
  rintro _ X17 ⟨w17,rfl,aO9,aS3⟩
  refine zD 1<|jn fun IA=>jcL (vs:=[zP d,.slice (some ⟨IA,0,none⟩) 7 7]) [1] [0] [(IA,.cells ⟨([(bs []),(bs [105]),(bs [115]),(bs [116]),(bs [97,101]),(bs [106]),(bs [110])].map pM).flatten⟩ 9 (0,0))] (fun aG hs hZ=>ZA (hN.up hs) aS3 (bU [(bs []),(bs [105]),(bs [115]),(bs [116]),(bs [97,101]),(bs [106]),(bs [110])] hZ.head (by intro p hp;rfl)) (by decide)) ?_
  rintro _ X20 ⟨w20,rfl,avY,aiM⟩
  refine zD 1<|jn fun b7=>jd 5 [0,0]<|jn fun Fs=>iE (sz:=2) (ps:=ps) (qs:=[(⟨w17,w20⟩:bQ)]) (enc:=iG) (w:= .slice (some ⟨Fs,0,none⟩) 1 1) [5] [0] [(Fs,.cells ⟨([(⟨w17,w20⟩:bQ)].map iG).flatten⟩ 45 (0,0))] (hI.2.1) (fun s _ hZ=>bN [(⟨w17,w20⟩:bQ)] (hZ _ (.head _)) (by intro p hp;rfl)) (fun p _=>ai rfl) (by simp<;>omega) (fun v25 L25 ahA=>?_)
  obtain⟨aLP,aLv,aRc⟩:=ahA.form
  subst aRc
  refine zD 4<|ja (j-1) (by omega)<|zD 2<|bE bF (⟨j-1,(.slice aLP ((ps++[(⟨w17,w20⟩:bQ)])).length aLv),L25,(ps++[(⟨w17,w20⟩:bQ)]),X20⟩) ⟨by simp only[zM];omega,ahA,qG hI.2.2.1 ⟨aO9,avY⟩,aiM⟩ (by omega) [0,3] (Sub.refl _)
 refine zD 8<|zR (v) [] [0,1] (L++X) ⟨_,_,_,hI.2.1,(by omega),hI.2.2.1,rfl,hI.2.2.2⟩
theorem aHS(hN:Dn ro vd xs)(hD:bK vd xs d X):dE zT 30 [zP d] ro X (fun r Y=>∃w:aO,r= .agg ⟨kO w⟩∧jA w∧bK vd xs d Y):=by
 refine zC [.l X]<|zD 2<|jn fun b2=>zD 8<|jn fun b9=>zD 9<|jc (vs:=[zP d,zI 4]) [2] (EL hN hD (by omega)) ?_
 rintro _ X15 ⟨w15,rfl,aPa,Ju,aye⟩
 obtain⟨BL,mH⟩:=zG ([(⟨1,0,0,0,0,0,0⟩:aO),(⟨2,0,0,0,0,0,0⟩:aO),(⟨1,1,0,0,0,0,0⟩:aO),(⟨2,1,0,0,0,0,0⟩:aO),(⟨4,1,0,0,0,0,0⟩:aO)]:List _) (w15.toNat) (show w15.toNat <5 from by omega)
 refine IU (a:=(some ⟨b9,0,none⟩)) (b:=b9) (off:=0) w15 5 7 (fun _ _=>rfl) mH (by omega)<|kJ (m:=7) 0 [1] [(b9,.cells ⟨([(⟨1,0,0,0,0,0,0⟩:aO),(⟨2,0,0,0,0,0,0⟩:aO),(⟨1,1,0,0,0,0,0⟩:aO),(⟨2,1,0,0,0,0,0⟩:aO),(⟨4,1,0,0,0,0,0⟩:aO)].map kO).flatten⟩ 83 (0,0))] (fun s _ hZ=>xv (hZ _ (.head _)) (by intro p hp;rfl) mH) ?_
 refine jd 3 [2]<|zR (.agg ⟨[zI BL.k,zI BL.st,zI BL.ot,zI BL.fn,zI BL.fl,zI BL.tn,zI BL.tl]⟩) [2] [0] X15 ⟨BL,rfl,zL mH,aye⟩
def G0(b:UInt8):Bool:=Nat.ble 97 b.toNat&&Nat.ble b.toNat 122
def GG(b:UInt8):Bool:=Nat.ble 65 b.toNat&&(Nat.ble b.toNat 90&& !(Nat.beq b.toNat 72||Nat.beq b.toNat 81||Nat.beq b.toNat 87))
def Script(w:ByteArray):Prop:=(∀b∈w.data.toList,G0 b=true)∨(∀b∈w.data.toList,GG b=true)
def aaa(w:ByteArray):Prop:=(0 <w.size∧w.size≤7)∧Script w
def OL(w:ByteArray):Prop:=(1≤w.size∧w.size≤3)∧Script w
theorem aev{w:ByteArray}(h:(w.data.toList.all G0||w.data.toList.all GG)=true)(h1:(Nat.blt 0 w.size&&Nat.ble w.size 7)=true):aaa w:=by
 simp only[Bool.or_eq_true,List.all_eq_true] at h
 simp only[Bool.and_eq_true,Nat.blt_eq,Nat.ble_eq] at h1
 exact⟨h1,h⟩
theorem aBU{w:ByteArray}(h:w∈[bs [97,101,115],bs [115,104,101,116,97],bs [115,109,105,116,121,104,97],bs [99,104,106,97],bs [97,110,110,101]]):aaa w:=by
 simp only[List.mem_cons,List.not_mem_nil,or_false] at h
 rcases h with rfl|rfl|rfl|rfl|rfl<;>exact aev (by decide) (by decide)
theorem aBT{w:ByteArray}(h:w∈[bs [65,69,83],bs [88,69,84,65],bs [83,77,73,84,89,65],bs [67,74,65,88],bs [65,78,78,69]]):aaa w:=by
 simp only[List.mem_cons,List.not_mem_nil,or_false] at h
 rcases h with rfl|rfl|rfl|rfl|rfl<;>exact aev (by decide) (by decide)
def nB:List ByteArray:=[bs [102,111,111,100],bs [98,114,101,97,100],bs [99,108,111,116,104],bs [104,97,116,115],bs [119,111,111,100],bs [105,114,111,110],bs [98,101,101,114],bs [105,110],bs [115,101,101]]
def pw:List ByteArray:=[bs [98,97,107,101,114],bs [98,97,107,101,114,115],bs [98,111,110,110,101,116,115],bs [98,114,101,119,101,114],bs [98,114,117,115,104,101,115],bs [98,117,116,99,104,101,114],bs [99,97,110,100,108,101,115],bs [99,111,111,112,101,114],bs [99,111,111,112,101,114,115],bs [99,117,116,108,101,114],bs [104,97,116,116,101,114],bs [104,111,115,105,101,114],bs [109,101,114,99,101,114],bs [109,105,108,108,105,110,101,114],bs [116,97,105,108,111,114],bs [116,97,110,110,101,114]]
theorem AQ{T:TypeId}{enc:α→List Value}(ps:List α)(hn:ps.length=n)(hl:∀p∈ps,(enc p).length=sz):aw (.slice (some ⟨b,0,none⟩) n n) sz T enc ps [(b,.cells ⟨(ps.map enc).flatten⟩ T (0,0))]:=by
 subst hn
 exact .inr ⟨b,_,ps.length,rfl,rfl,j9 ps hl,Nat.le_refl _,hl,by rw[←j9 ps hl,List.take_length]⟩
theorem Ub{s t w:ByteArray}(h:∀b∈s.data.toList,b∈w.data.toList)(k:∀b∈t.data.toList,b∈w.data.toList):∀b∈(s++t).data.toList,b∈w.data.toList:=fun b hb=>by
 rw[ByteArray.data_append,Array.toList_append,List.mem_append] at hb
 exact hb.elim (h b) (k b)
theorem PV{w:ByteArray}(i j:Nat):∀b∈(w.extract i j).data.toList,b∈w.data.toList:=fun b hb=>by
 rw[ByteArray.data_extract,Array.toList_extract] at hb
 exact List.mem_of_mem_drop (List.mem_of_mem_take (by simpa [List.extract] using hb))
theorem Uo{s w:ByteArray}(h:∀b∈s.data.toList,b∈w.data.toList)(hw:Script w):Script s:=hw.imp (fun k b hb=>k b (h b hb)) (fun k b hb=>k b (h b hb))
theorem ZB(hN:Dn ro vd xs)(hD:bK vd xs d X):dE zT 34 [zP d,zI 3] ro X (fun r Y=>∃w:ByteArray,r= .string w∧OL w∧bK vd xs d Y):=by
 refine zC [.l X]<|zD 7<|jn fun sw=>jcL (vs:=[zP d,.slice (some ⟨sw,0,none⟩) 5 5]) [1] [0] [(sw,.cells ⟨([(bs [97,101,115]),(bs [115,104,101,116,97]),(bs [115,109,105,116,121,104,97]),(bs [99,104,106,97]),(bs [97,110,110,101])].map pM).flatten⟩ 9 (0,0))] (fun aG hs hZ=>ZA (hN.up hs) hD (bU [(bs [97,101,115]),(bs [115,104,101,116,97]),(bs [115,109,105,116,121,104,97]),(bs [99,104,106,97]),(bs [97,110,110,101])] hZ.head (by intro p hp;rfl)) (by decide)) ?_
 rintro _ X11 ⟨w11,rfl,aPc,aS5⟩
 refine zD 6<|jc (vs:=[zP d,zI 3]) [0] (tv hN aS5 (by omega)) ?_
 rintro _ X13 ⟨w13,rfl,aoR⟩
 refine zD 1<|Es [1,1,1] [] (fun(zz:ByteArray×Cells)=>[(0,zP d),(1,zI 3),(4,.string (bs [])),(5,.string zz.1)]) (fun zz=>[.l zz.2]) (fun zz=>aaa zz.1∧bK vd xs d zz.2) ?_ (fun K1 bF=>?_)
 ·
  rintro⟨w,X⟩ hJ rest
  dsimp only at hJ
  obtain⟨⟨YN,hw7⟩,rZ⟩:=hJ.1
  refine zD 9<|jmn (k:= .i64) (a:=3) (b:=6)<|jc (vs:=[zP d,zI 1,zI (min 3 6)]) [0] (Bq hN hJ.2 (by omega) (by omega)) ?_
  rintro _ X20 ⟨w20,rfl,avY,CL,aiM⟩
  refine zD 3<|dB [1,1,1,1,0,1,0,0] [] (fun(zz:Int×ByteArray×Cells)=>[(0,zP d),(4,.string (bs [])),(5,.string w),(6,.string zz.2.1),(7,zI zz.1)]) (fun zz=>[.l zz.2.2]) (fun zz=>(0≤zz.1∧zz.2.1.size+zz.1=w20)∧(∀b∈zz.2.1.data.toList,b∈w.data.toList)∧bK vd xs d zz.2.2) (fun zz=>zz.1.toNat) (⟨w20,bs [],X20⟩) ⟨⟨by omega,by simp[bs,ByteArray.size]⟩,(fun _ h=>by simp[bs] at h),aiM⟩ [0] ?_
  rintro⟨j,t,Z⟩ hI K2 kL rest
  dsimp only at hI
  refine zD 6<|zJ 22 (j>0) (fun h1=>?_) fun h1=>?_
  ·
   refine zD 9<|ja ((w.size:Int)-1) (by omega)<|jc (vs:=[zP d,zI ((w.size:Int)-1)]) [0] (EL hN hI.2.2 (by omega)) ?_
   rintro _ X29 ⟨w29,rfl,bbH,A1,aSY⟩
   refine zD 7<|ja (w29+1) (by omega)<|jtB (b:=w) (lo:=w29) (hi:=(w29+1)) (by omega)<|jsa (a:=t) (b:=(w.extract w29.toNat (w29+1).toNat)) 9 (by rw[ByteArray.size_extract];omega) ?_
   refine zD 4<|ja (j-1) (by omega)<|zD 2<|bE kL (⟨j-1,(t++(w.extract w29.toNat (w29+1).toNat)),X29⟩) ⟨⟨by omega,by rw[ByteArray.size_append,ByteArray.size_extract];omega⟩,Ub hI.2.1 (PV _ _),aSY⟩ (by omega) [0] (Sub.refl _)
  refine zD 8<|zR (.string t) [] [0] Z ⟨_,rfl,⟨by omega,Uo hI.2.1 rZ⟩,hI.2.2⟩
 refine js 13 w13 (fun h2=>?_) (fun h2=>?_)
 ·
  subst h2
  refine zD 3<|jn fun IB=>jcL (vs:=[zP d,.slice (some ⟨IB,0,none⟩) 5 5]) [1] [0] [(IB,.cells ⟨([(bs [65,69,83]),(bs [88,69,84,65]),(bs [83,77,73,84,89,65]),(bs [67,74,65,88]),(bs [65,78,78,69])].map pM).flatten⟩ 9 (0,0))] (fun aG hs hZ=>ZA (hN.up hs) aoR (bU [(bs [65,69,83]),(bs [88,69,84,65]),(bs [83,77,73,84,89,65]),(bs [67,74,65,88]),(bs [65,78,78,69])] hZ.head (by intro p hp;rfl)) (by decide)) ?_
  rintro _ X16 ⟨w16,rfl,aEw,aiN⟩
  refine zD 2<|bE bF ⟨w16,X16⟩ ⟨aBT aEw,aiN⟩ Nat.zero_lt_one [0] (Sub.refl _)
 subst h2
 refine zD 2<|bE bF ⟨w11,X13⟩ ⟨aBU aPc,aoR⟩ Nat.zero_lt_one [0] (Sub.refl _)
theorem agA:dE zT 66 [] ro [] (fun r Y=>∃L,aw r 1 9 pM nB L∧Y=L):=by
 refine zE<|zD 6<|jn fun b1=>zD 3<|zR (.slice (some ⟨b1,0,none⟩) 9 9) [] [0] [(b1,.cells ⟨[.string (bs [102,111,111,100]),.string (bs [98,114,101,97,100]),.string (bs [99,108,111,116,104]),.string (bs [104,97,116,115]),.string (bs [119,111,111,100]),.string (bs [105,114,111,110]),.string (bs [98,101,101,114]),.string (bs [105,110]),.string (bs [115,101,101])]⟩ 9 (0,0))] ⟨_,AQ nB rfl (by intro p hp;rfl),rfl⟩
theorem agQ:dE zT 68 [] ro [] (fun r Y=>∃L,aw r 1 9 pM pw L∧Y=L):=by
 refine zE<|zD 6<|jn fun b1=>zD 3<|zR (.slice (some ⟨b1,0,none⟩) 16 16) [] [0] [(b1,.cells ⟨[.string (bs [98,97,107,101,114]),.string (bs [98,97,107,101,114,115]),.string (bs [98,111,110,110,101,116,115]),.string (bs [98,114,101,119,101,114]),.string (bs [98,114,117,115,104,101,115]),.string (bs [98,117,116,99,104,101,114]),.string (bs [99,97,110,100,108,101,115]),.string (bs [99,111,111,112,101,114]),.string (bs [99,111,111,112,101,114,115]),.string (bs [99,117,116,108,101,114]),.string (bs [104,97,116,116,101,114]),.string (bs [104,111,115,105,101,114]),.string (bs [109,101,114,99,101,114]),.string (bs [109,105,108,108,105,110,101,114]),.string (bs [116,97,105,108,111,114]),.string (bs [116,97,110,110,101,114])]⟩ 9 (0,0))] ⟨_,AQ pw rfl (by intro p hp;rfl),rfl⟩
structure bA where
 word:ByteArray
 cls:Int
 oy:Int
 dR:Value
abbrev mf(x:bA):List Value:=[.string x.word,zI x.cls,zI x.oy,x.dR]
def Xa(hs:List bA)(i:Int):Prop:=0≤i∧∃h,hs[i.toNat]?=some h∧0≤h.cls
theorem WQ{p:α→Bool}{l:List α}{x:α}(h:l[k]?=some x):(l.drop k).any p=(p x||(l.drop (k+1)).any p):=by rw[eB h];rfl
theorem apA{p:α→Bool}{l:List α}(h:¬k <l.length):(l.drop k).any p=false:=by rw[ep h];rfl
def Dw(fs:List bM)(a b:Int):Bool:=fs.any fun y=>decide (y.a=a)&&decide (y.b=b)
theorem xL{hs:List bA}(hN:Dn ro vd xs)(hD:bK vd xs d X)(hh:bC ro vh 4 mf hs)(hn:hs.length≤100):dE zT 33 [zP d,.agg ⟨[zI 2,zI 0,zI 0,vc,vh,zS,zS]⟩,.string nm] ro X (fun r Y=>∃w:aA,r= .agg ⟨eA w⟩∧w.name=nm∧(0≤w.st∧w.st≤1)∧(w.head= -1∨Xa hs w.head)∧bK vd xs d Y):=by
 obtain⟨dI,u4,u3,du,rfl,xw,qR,qQ⟩:=hh
 refine zC [.l X]<|zD 2<|jn fun b4=>jn fun b6=>jd 8 [1]<|jc (vs:=[zP d,zI 1]) [2] (EL hN hD (by omega)) ?_
 rintro _ X15 ⟨w15,rfl,aPa,Ju,aye⟩
 refine zD 2<|jc (vs:=[zP d,zI 1,zI 3]) [0] (Bq hN aye (by omega) (by omega)) ?_
 rintro _ X18 ⟨w18,rfl,bbL,bbz,Sd⟩
 refine zD 1<|jc (vs:=[zP d,zI 1,zI 3]) [0] (Bq hN Sd (by omega) (by omega)) ?_
 rintro _ X20 ⟨w20,rfl,avY,CL,aiM⟩
 refine zD 1<|jc (vs:=[zP d,zI 1,zI 40]) [0] (Bq hN aiM (by omega) (by omega)) ?_
 rintro _ X22 ⟨w22,rfl,bbK,uf,aS1⟩
 refine jn fun b23=>jcL (vs:=[zP d,.slice (some ⟨b23,0,none⟩) 3 3]) [1] [0] [(b23,.cells ⟨([w18,w20,w22].map cm).flatten⟩ 3 (0,0))] (fun aG hs hZ=>ajY (hN.up hs) aS1 (bU [w18,w20,w22] hZ.head (by intro p hp;rfl)) (by simp)) ?_
 rintro _ X24 ⟨w24,rfl,bbJ,aS0⟩
 refine zD 1<|jc (vs:=[zP d,zI 4]) [0] (tv hN aS0 (by omega)) ?_
 rintro _ X26 ⟨w26,rfl,aGV⟩
 refine zD 1<|jn fun b7=>jd 12 [0]<|n8<|dB [1,1,1,0,1,0,0] [] (fun(zz:Nat×Value×Cells×(List Int))=>[(0,zP d),(4,zP b4),(6,zP b6),(7,zP b7),(8,zz.2.1),(9,zI (zz.1:Int))]) (fun zz=>[.l zz.2.2.1,.l X26,.b b7 (.cells ⟨[.string nm,zI w15,zI w24,zI (-1),.bool w26]⟩ 55 (0,0)),.b b6 (.cells ⟨[.string ByteArray.empty,zI 0,zI 0,zI 0,.bool false]⟩ 55 (0,0)),.b b4 (.cells ⟨[zI 2,zI 0,zI 0,vc,.slice dI hs.length du,zS,zS]⟩ 90 (0,0))]) (fun zz=>(zz.1≤hs.length∧zz.2.2.2.length≤zz.1)∧aw zz.2.1 1 3 cm zz.2.2.2 zz.2.2.1∧∀i∈zz.2.2.2,Xa hs i) (fun zz=>hs.length-zz.1) (⟨0,zS,[],[]⟩) ⟨⟨by omega,by simp⟩,aw.nil _ _ _,(fun _ h=>by cases h)⟩ [0,2,1,4,5] ?_
 rintro⟨k,v,L,ps⟩ hI K1 bF rest
 dsimp only at hI
 refine jd 10 [4]<|zJ 33 ((k:Int) <(hs.length:Int)) (fun h1=>?_) fun h1=>?_
 ·
  refine jd 10 [4] ?_
  obtain⟨x40,avS⟩:=zG hs k
  refine gY du 4 qR avS<|zD 1<|jl 1 (qQ _ _ avS)<|zD 2<|zJ 43 (x40.cls≥0) (fun h2=>?_) fun h2=>?_
  ·
   refine zD 4<|jn fun b46=>iE (sz:=1) (ps:=ps) (qs:=[(k:Int)]) (enc:=cm) (w:= .slice (some ⟨b46,0,none⟩) 1 1) [1] [0] [(b46,.cells ⟨([(k:Int)].map cm).flatten⟩ 3 (0,0))] (hI.2.1) (fun s _ hZ=>bN [(k:Int)] (hZ _ (.head _)) (by intro p hp;rfl)) (fun p _=>ai rfl) (by simp<;>omega) (fun v47 L47 ahu=>?_)
   obtain⟨aLJ,aLp,aQ8⟩:=ahu.form
   subst aQ8
   refine zD 4<|ja ((k:Int)+1) (by omega)<|zD 2<|bE bF (⟨k+1,(.slice aLJ ((ps++[(k:Int)])).length aLp),L47,(ps++[(k:Int)])⟩) ⟨by simp only[zM];omega,ahu,qG hI.2.2 ⟨by omega,x40,avS,by assumption⟩⟩ (by omega) [0,2,3,4,5] (Sub.refl _)
  refine zD 4<|ja ((k:Int)+1) (by omega)<|zD 2<|bE bF (⟨k+1,v,L,ps⟩) ⟨by dsimp only;omega,hI.2⟩ (by omega) (zN 0 5) (Sub.refl _)
 refine zD 6<|CG hI.2.1<|zD 2<|js 51 (decide ((ps.length:Int)>0)) (fun h3=>?_) (fun h3=>?_)
 ·
  have wH:=h3
  replace wH:=of_decide_eq_true wH
  refine zD 1<|jc (vs:=[zP d,zI 4]) [1] (tv hN aGV (by omega)) ?_
  rintro _ X53 ⟨w53,rfl,aoQ⟩
  refine zD 3<|js 55 (!w53) (fun h4=>?_) (fun h4=>?_)
  ·
   try simp only[zB] at h4
   refine zD 5<|CG hI.2.1<|ja ((ps.length:Int)-1) (by omega)<|jc (vs:=[zP d,zI ((ps.length:Int)-1)]) [0] (EL hN aoQ (by omega)) ?_
   rintro _ X61 ⟨w61,rfl,bbE,abD,aSS⟩
   obtain⟨x62,avR⟩:=zG ps (w61.toNat)
   refine mW w61 1 hI.2.1 avR (by omega) fun b62 aRN=>kJ 0 [1] L (fun s _ hZ=>bn hI.2.1 aRN hZ avR)<|jd 9 [2,2,3]<|zR (.agg ⟨[.string nm,zI w15,zI w24,zI x62,.bool w26]⟩) [3] [0] X61 ⟨⟨_,_,_,_,_⟩,rfl,rfl,(by dsimp only;omega),.inr (hI.2.2 _ (zL avR)),aSS⟩
  try simp only[zB] at h4
  refine jd 8 [2,3]<|zR (.agg ⟨[.string nm,zI w15,zI w24,zI (-1),.bool w26]⟩) [3] [0] X53 ⟨⟨_,_,_,_,_⟩,rfl,rfl,(by dsimp only;omega),.inl rfl,aoQ⟩
 have wH:=h3
 replace wH:=of_decide_eq_false wH
 refine jd 13 [2,3]<|zR (.agg ⟨[.string nm,zI w15,zI w24,zI (-1),.bool w26]⟩) [3] [1] X26 ⟨⟨_,_,_,_,_⟩,rfl,rfl,(by dsimp only;omega),.inl rfl,aGV⟩
theorem agO(hm:bC ro vm 1 cm ys)(hn:ys.length≤1000):dE zT 27 [vm] ro [] (fun r Y=>∃L,aw r 1 3 cm ys L∧Y=L):=by
 obtain⟨qma,qmb,qmo,qmc,rfl,qmk,qmh,qml⟩:=hm
 refine zE<|zD 6<|jn fun b3=>zD 1<|iE (sz:=1) (ps:=[]) (qs:=ys) (enc:=cm) (w:= .slice qma ys.length qmc) [0] [] [] (bB (b:=b3) (T:=3)) (fun s he _=>⟨qma,qmb,qmo,qmc,rfl,qmh,fun i p hp=>(qml i p hp).ext he⟩) (fun p _=>ai rfl) (by simp<;>omega) (fun v5 L5 Hj=>?_)
 rw[List.nil_append] at Hj
 obtain⟨va5,vc5,he5⟩:=Hj.form
 subst he5
 refine zD 3<|zR ((.slice va5 (ys).length vc5)) [] [0] L5 ⟨_,Hj,rfl⟩
theorem gR{ys:List aA}(hm:bC ro vm 5 eA ys)(hn:ys.length≤1000):dE zT 16 [vm] ro [] (fun r Y=>∃L,aw r 5 55 eA ys L∧Y=L):=by
 obtain⟨qma,qmb,qmo,qmc,rfl,qmk,qmh,qml⟩:=hm
 refine zE<|zD 6<|jn fun b3=>zD 1<|iE (sz:=5) (ps:=[]) (qs:=ys) (enc:=eA) (w:= .slice qma ys.length qmc) [0] [] [] (bB (b:=b3) (T:=55)) (fun s he _=>⟨qma,qmb,qmo,qmc,rfl,qmh,fun i p hp=>(qml i p hp).ext he⟩) (fun p _=>ai rfl) (by simp<;>omega) (fun v5 L5 Hj=>?_)
 rw[List.nil_append] at Hj
 obtain⟨va5,vc5,he5⟩:=Hj.form
 subst he5
 refine zD 3<|zR ((.slice va5 (ys).length vc5)) [] [0] L5 ⟨_,Hj,rfl⟩
theorem aD2{vf:Value}{x:bM}(hf:bC ro vf 3 m8 fs)(hn:fs.length≤1000):dr zT 38 [.agg ⟨[s0,s1,s2,t0,t1,ru,vb,va,zI gone,zI new,zI af,vf]⟩,.agg ⟨[zI x.a,zI x.b,.bool x.same]⟩] ro (.bool (Dw fs x.a x.b)):=by
 obtain⟨gX,v9,vZ,fT,rfl,AH,qL,qK⟩:=hf
 refine zE<|zD 2<|jn fun b2=>jn fun b3=>zD 8<|dB [1,0,1,0,0] [] (fun(zz:Nat)=>[(2,zP b2),(3,zP b3),(5,zI (zz:Int))]) (fun zz=>[.b b3 (.cells ⟨[zI x.a,zI x.b,.bool x.same]⟩ 58 (0,0)),.b b2 (.cells ⟨[s0,s1,s2,t0,t1,ru,vb,va,zI gone,zI new,zI af,.slice gX fs.length fT]⟩ 40 (0,0))]) (fun zz=>zz≤fs.length∧Dw fs x.a x.b=(fs.drop zz).any (fun y=>decide (y.a=x.a)&&decide (y.b=x.b))) (fun zz=>fs.length-zz) 0 ⟨by omega,rfl⟩ [0,1] ?_
 rintro k hI K1 bF rest
 refine jd 9 [1]<|zJ 10 ((k:Int) <(fs.length:Int)) (fun h1=>?_) fun h1=>?_
 ·
  refine jd 9 [1] ?_
  obtain⟨BL,mH⟩:=zG fs k
  refine gY fT 3 qL mH<|zD 1<|jl 0 (qK _ _ mH)<|jd 4 [0]<|js 9 (decide (BL.a=x.a)) (fun h2=>?_) (fun h2=>?_)
  ·
   have k7:=h2
   replace k7:=of_decide_eq_true k7
   refine jd 3 [1] ?_
   obtain⟨Mn,A2⟩:=zG fs k
   refine gY fT 3 qL A2<|zD 1<|jl 1 (qK _ _ A2)<|jd 5 [0]<|zJ 32 (Mn.b=x.b) (fun h3=>?_) fun h3=>?_
   ·
    refine zD 6<|zX (.bool true) ⟨by rw[hI.2,WQ mH];simp_all,rfl⟩
   refine zD 4<|ja ((k:Int)+1) (by omega)<|zD 2<|bE bF (k+1) ⟨by omega,by rw[hI.2,WQ mH];simp_all⟩ (by omega) [0,1] (Sub.refl _)
  have k7:=h2
  replace k7:=of_decide_eq_false k7
  refine zD 15<|ja ((k:Int)+1) (by omega)<|zD 2<|bE bF (k+1) ⟨by omega,by rw[hI.2,WQ mH];simp_all⟩ (by omega) [0,1] (Sub.refl _)
 refine zD 7<|zX (.bool false) ⟨by rw[hI.2,apA (by omega)],rfl⟩
theorem aTB{fa:Value}{uW Mh:List aA}(hN:Dn ro vd xs)(hD:bK vd xs d X)(hb:bC ro vb 5 eA uW)(ha:bC ro va 5 eA Mh)(hn:uW.length≤100∧Mh.length≤100):dE zT 37 [zP d,.agg ⟨[s0,s1,s2,t0,t1,ru,vb,va,zI gone,zI new,zI af,fa]⟩] ro X (fun r Y=>∃x:bM,r= .agg ⟨m8 x⟩∧(0≤x.a∧(x.a <uW.length∨x.a=0))∧(0≤x.b∧(x.b <Mh.length∨x.b=0))∧bK vd xs d Y):=by
 obtain⟨mw,O0,OY,mo,rfl,OZ,MS,MQ⟩:=hb
 obtain⟨lP,Ko,Kl,lG,rfl,Km,Jn,Jm⟩:=ha
 refine zC [.l X]<|zD 2<|jn fun b3=>jn fun b4=>jd 7 [1]<|ja ((uW.length:Int)-1) (by omega)<|jd 4 [1]<|ja ((Mh.length:Int)-1) (by omega)<|zD 1<|aS 5 fun BV B3 An=>jc (vs:=[zP d,zI ((uW.length:Int)-1)]) [2] (EL hN hD (by omega)) ?_
 rintro _ X10 ⟨w10,rfl,ahb,rY,V3⟩
 refine gx An [[2],[2]]<|aS 11 fun yD yK ya=>jc (vs:=[zP d,zI ((Mh.length:Int)-1)]) [0] (EL hN V3 (by omega)) ?_
 rintro _ X16 ⟨w16,rfl,aEw,mH,aiN⟩
 refine gx ya [[2],[2]]<|aS 13 fun oh ov mZ=>jc (vs:=[zP d,zI 2]) [0] (tv hN aiN (by omega)) ?_
 rintro _ X18 ⟨w18,rfl,Sd⟩
 refine gx mZ [[2],[2]]<|zD 1<|aS 15 fun pX p6 oZ=>jd 1 [1]<|fU oZ<|zD 2<|zR (.agg ⟨[zI w10,zI w16,.bool w18]⟩) [1] [0] X18 ⟨⟨_,_,_⟩,rfl,(by dsimp only;omega),(by dsimp only;omega),Sd⟩
inductive di{α β:Type}(R:α→β→Prop):List α→List β→Prop
 |nil:di R [] []
 |cons {a:α} {b:β} {l:List α} {m:List β}:R a b→di R l m→di R (a::l) (b::m)
theorem di.snoc{R:α→β→Prop}{l:List α}{m:List β}{a:α}{b:β}(h:di R l m)(k:R a b):di R (l++[a]) (m++[b]):=by
 induction h with
 |nil=>exact .cons k .nil
 |cons h1 _ ih=>exact .cons h1 ih
theorem di.len{R:α→β→Prop}{l:List α}{m:List β}(h:di R l m):l.length=m.length:=by
 induction h with
 |nil=>rfl
 |cons _ _ ih=>simp[ih]
theorem di.get{R:α→β→Prop}{l:List α}{m:List β}(h:di R l m){a:α}(ha:l[i]?=some a):∃b,m[i]?=some b∧R a b:=by
 induction h generalizing i with
 |nil=>simp at ha
 |cons h1 _ ih=>
  cases i with
  |zero=>simp at ha;subst ha;exact⟨_,rfl,h1⟩
  |succ i=>exact ih (by simpa using ha)
theorem di.imp{R S:α→β→Prop}{l:List α}{m:List β}(h:di R l m)(k:∀a b,R a b→S a b):di S l m:=by
 induction h with
 |nil=>exact .nil
 |cons h1 _ ih=>exact .cons (k _ _ h1) ih
structure cy where
 word:ByteArray
 cls:Int
 oy:Int
 dR:List Int
variable {hd:List cy}
def dq(h:bA)(x:cy):Prop:=h.word=x.word∧h.cls=x.cls∧h.oy=x.oy
def rH(ro:Nat→Option Obj)(h:bA)(x:cy):Prop:=h.word=x.word∧h.cls=x.cls∧h.oy=x.oy∧bC ro h.dR 1 cm x.dR
def jb(ro:Nat→Option Obj)(vc vh:Value)(cs:List bO)(hv:List bA)(hd:List cy):Prop:=bC ro vc 2 pd cs∧bC ro vh 4 mf hv∧di (rH ro) hv hd
def gG(nc nh:Nat)(i:Nat)(x:cy):Prop:=(-1≤x.cls∧x.cls <nc)∧(-1≤x.oy∧x.oy <nh∧x.oy≠i)∧(x.dR.length≤nh∧x.dR.Pairwise (· < ·)∧∀y∈x.dR,0≤y∧y <nh∧y≠i)∧(x.oy≠ -1→x.cls= -1∧x.dR=[])∧(x.oy= -1→x.cls= -1→x.dR≠[])
structure xd(cs:List bO)(hd:List cy):Prop where
 nc:0 <cs.length∧cs.length≤3
 nh:hd.length≤4
 cls:∀(i:Nat) (c:bO),cs[i]?=some c→c.name∈nB∧ -1≤c.under∧c.under <i
 names:(cs.map (·.name)).Pairwise fun a b=>cR a b=false
 A8:∀(i:Nat) (x:cy),hd[i]?=some x→x.word∈pw∧gG cs.length hd.length i x
 words:(hd.map (·.word)).Pairwise fun a b=>cR a b=false∧strLt b a=false
def nZ(names:List Int)(cs:List bO):Prop:=∀(i:Nat) (c:bO),cs[i]?=some c→(∃y,names[i]?=some y∧nB[y.toNat]?=some c.name)∧ -1≤c.under∧c.under <i
theorem Sk{l:List α}{x y:α}(h:(l++[x])[i]?=some y):l[i]?=some y∨(i=l.length∧y=x):=by
 rcases Nat.lt_trichotomy i l.length with h1|h1|h1
 ·rw[List.getElem?_append_left h1] at h;exact .inl h
 ·subst h1;simp at h;exact .inr ⟨rfl,h.symm⟩
 rw[List.getElem?_eq_none (by simp;omega)] at h;cases h
theorem nZ.snoc{names:List Int}(h:nZ names cs){y u:Int}(h1:names[cs.length]?=some y) (h2:nB[y.toNat]?=some nm) (h3: -1≤u∧u <cs.length):nZ names (cs++[⟨nm,u⟩]):=fun i c hc=>by
 rcases Sk hc with h4| ⟨rfl,rfl⟩
 ·exact h i c h4
 exact⟨⟨y,h1,h2⟩,h3⟩
def mT(ws:List Int)(nc:Nat)(hv:List bA)(hd:List cy)(Z:Cells)(i:Nat):Prop:=
 (∀ro,Knows ro Z→di (rH ro) hv hd)∧hd.length=i∧hv.length=i∧(∀(k:Nat) (x:cy),hd[k]?=some x→(∃w,ws[k]?=some w∧pw[w.toNat]?=some x.word)∧gG nc ws.length k x)∧di dq hv hd
theorem mT.snoc{ws:List Int}{hv:List bA}{Z A:Cells}(h:mT ws nc hv hd Z i){hV:bA}{x:cy}{w:Int}(h0:dq hV x)(h1:∀ro,Knows ro A→rH ro hV x)(h2:ws[i]?=some w) (h3:pw[w.toNat]?=some x.word) (h4:gG nc ws.length i x):
 mT ws nc (hv++[hV]) (hd++[x]) (A++Z) (i+1):=by
 obtain⟨g1,g2,g3,g4,g5⟩:=h
 refine⟨fun ro hk=>(g1 ro hk.right).snoc (h1 ro hk.left),by simp[g2],by simp[g3],fun k y hy=>?_,g5.snoc h0⟩
 rcases Sk hy with h5| ⟨rfl,rfl⟩
 ·exact g4 k y h5
 rw[g2];exact⟨⟨w,h2,h3⟩,h4⟩
theorem ane{i n w:Int}(hi:0≤i∧i <n)(hw:0≤w∧w≤n-2):0≤Int.tmod (i+1+w) n∧Int.tmod (i+1+w) n <n∧Int.tmod (i+1+w) n≠i:=by
 have h1:=Int.tmod_nonneg n (show 0≤i+1+w by omega)
 have h2:=Int.tmod_lt_of_pos (i+1+w) (show 0 <n by omega)
 refine⟨h1,h2,fun h=>?_⟩
 have h3:=Int.tmod_add_mul_tdiv (i+1+w) n
 rw[h] at h3
 have h4:n*(i+1+w).tdiv n=1+w:=by omega
 rcases Int.lt_trichotomy ((i+1+w).tdiv n) 0 with h5|h5|h5
 ·have:n*(i+1+w).tdiv n≤n* -1:=Int.mul_le_mul_of_nonneg_left (by omega) (by omega)
  omega
 ·rw[h5] at h4;omega
 have:n*1≤n*(i+1+w).tdiv n:=Int.mul_le_mul_of_nonneg_left (by omega) (by omega)
 omega
theorem Dx:nB.Pairwise fun a b=>cR a b=false:=by simp only[Ax];decide
theorem WC:pw.Pairwise fun a b=>cR a b=false∧strLt b a=false:=by simp only[Ax,PW];decide
def lK(i:Nat)(k:Nat)(al:List Int):Prop:=al.length≤k∧al.Pairwise (· < ·)∧∀y∈al,0≤y∧y <k∧y≠i
theorem qd{l:List α}{R:α→α→Prop}(h:l.Pairwise R){j:Nat}{a b:α}(I1:i <j)(ha:l[i]?=some a) (hb:l[j]?=some b):R a b:=by
 obtain⟨h1,rfl⟩:=List.getElem?_eq_some_iff.1 ha
 obtain⟨h2,rfl⟩:=List.getElem?_eq_some_iff.1 hb
 exact List.pairwise_iff_getElem.1 h i j h1 h2 I1
theorem ae8{l:List α}{f:α→β}{R:β→β→Prop}(h:∀(i j:Nat) (a b:α),i <j→l[i]?=some a→l[j]?=some b→R (f a) (f b)):(l.map f).Pairwise R:=by
 rw[List.pairwise_map,List.pairwise_iff_getElem]
 exact fun i j hi hj I1=>h i j _ _ I1 (List.getElem?_eq_getElem hi) (List.getElem?_eq_getElem hj)
theorem Ud{a b:ByteArray}(h:cR a b=false):cR b a=false:=by
 cases h2:cR b a with
 |false=>rfl
 |true=>rw[B4.1 h2,B4.2 rfl] at h;cases h
theorem aas{M6 kD:List Int}{hv:List bA}{Z:Cells}(hc:nZ M6 cs)(hp:M6.Perm (cb nB.length))(hn:0 <cs.length∧cs.length≤3)(hh:mT kD cs.length hv hd Z i)(hi:i=kD.length)(h4:kD.length≤4)(hs:kD.Pairwise (· < ·))(hm:∀x∈kD,0≤x∧x <pw.length):xd cs hd:=by
 obtain⟨g1,g2,g3,g4,_⟩:=hh
 have iW:∀y∈M6,0≤y∧y <nB.length:=fun y hy=>nD (hp.mem_iff.1 hy)
 have mb:M6.Pairwise (· ≠·):=(hp.pairwise_iff (fun h=>Ne.symm h)).2 ((rN _).imp fun h=>by omega)
 refine⟨hn,by omega,fun k c hk=>?_,ae8 fun a b x y xG hx hy=>?_,fun k x hk=>?_,ae8 fun a b x y xG hx hy=>?_⟩
 ·obtain⟨⟨y,h1,h2⟩,h3⟩:=hc k c hk
  exact⟨zL h2,h3⟩
 ·obtain⟨⟨p,p1,p2⟩,_⟩:=hc a x hx
  obtain⟨⟨q,q1,q2⟩,_⟩:=hc b y hy
  have YQ:=qd mb xG p1 q1
  have hp0:=iW p (zL p1)
  have YP:=iW q (zL q1)
  rcases Nat.lt_trichotomy p.toNat q.toNat with h|h|h
  ·exact qd Dx h p2 q2
  ·exact absurd (show p=q by omega) YQ
  exact Ud (qd Dx h q2 p2)
 ·obtain⟨⟨w,h1,h2⟩,h3⟩:=g4 k x hk
  have:hd.length=kD.length:=by omega
  rw[this]
  exact⟨zL h2,h3⟩
 obtain⟨⟨p,p1,p2⟩,_⟩:=g4 a x hx
 obtain⟨⟨q,q1,q2⟩,_⟩:=g4 b y hy
 have YQ:=qd hs xG p1 q1
 have hp0:=hm p (zL p1)
 exact qd WC (show p.toNat <q.toNat by omega) p2 q2
theorem lK.step(h:lK i k al):lK i (k+1) al:=⟨by have:=h.1;omega,h.2.1,fun y hy=>by have:=h.2.2 y hy;omega⟩
theorem lK.snoc(h:lK i k al)(hk:(k:Int)≠i):lK i (k+1) (al++[(k:Int)]):=by
 refine⟨by have:=h.1;simp;omega,List.pairwise_append.2 ⟨h.2.1,List.pairwise_singleton _ _,fun a ha b hb=>?_⟩,qG (fun y hy=>by have:=h.2.2 y hy;omega) (by omega)⟩
 rw[List.mem_singleton] at hb;subst hb
 exact(h.2.2 a ha).2.1
theorem ah6{r:Int}{w:ByteArray}(h:0≤r∧r <nh∧r≠i)(h4:0 <nc):gG nc nh i ⟨w,-1,r,[]⟩:=
 have h1:=h.1
 have h2:=h.2.1
 have h3:=h.2.2
 ⟨⟨by simp,by simp<;>omega⟩,⟨by simp<;>omega,by simpa using h2,by simpa using h3⟩,⟨by simp,by simp,by simp⟩,fun _=>⟨rfl,rfl⟩,fun h=>by simp at h;omega⟩
theorem Lf{c:Int}{w:ByteArray}(hc:0≤c∧c <nc)(h:lK i k al)(hk:k≤nh)(hi:i <nh):gG nc nh i ⟨w,c,-1,al⟩:=
 ⟨⟨by simp<;>omega,by simpa using hc.2⟩,⟨by simp,by simp<;>omega,by simp<;>omega⟩,⟨by have:=h.1;simp<;>omega,h.2.1,fun y hy=>by have:=h.2.2 y hy;simp<;>omega⟩,fun hh=>by simp at hh,fun _ hh=>by simp at hh;omega⟩
theorem ah7{w:ByteArray}(h:lK i k al)(hk:k≤nh)(hi:i <nh)(dH:(al.length:Int)>0):gG nc nh i ⟨w,-1,-1,al⟩:=
 ⟨⟨by simp,by simp<;>omega⟩,⟨by simp,by simp<;>omega,by simp<;>omega⟩,⟨by have:=h.1;simp<;>omega,h.2.1,fun y hy=>by have:=h.2.2 y hy;simp<;>omega⟩,fun hh=>by simp at hh,fun _ _ hh=>by simp at hh;subst hh;simp at dH⟩
set_option maxHeartbeats 1000000 in
theorem apd (hN:Dn ro vd xs) (hD:bK vd xs d X):dE zT 28 [zP d,zI 3,zI 4] ro X (fun r Y=>∃(cs:List bO) (hv:List bA) (hd:List cy) (vc vh:Value) (Z X':Cells),r= .agg ⟨[vc,vh]⟩∧xd cs hd∧di dq hv hd∧(∀aD,Knows aD Z→jb aD vc vh cs hv hd)∧Y=Z++X'∧bK vd xs d X'):=by
 refine zC [.l X]<|zD 2<|jn fun b6=>zD 3<|jn fun b7=>zD 4<|jc [] (agA) ?_
 rintro v16 L16 ⟨_,aod,rfl⟩
 refine CG aod<|jc (vs:=[zP d,zI (nB.length:Int)]) [3] (ajX hN hD (by first|omega|decide)) ?_
 rintro v18 _ ⟨M6,L18,X18,abK,Rz,rfl,Sd⟩
 refine jg 0 [.l L18,.l X18]<|zD 7<|jc (vs:=[zP d,zI 1,zI 3]) [1] (Bq hN Sd (by omega) (by omega)) ?_
 rintro _ X21 ⟨w21,rfl,an5,mG,aS2⟩
 refine zD 3<|n8<|dB [1,1,1,0,1,0,0] [] (fun(zz:Int×Value×Cells×(List bO)×Cells)=>[(0,zP d),(2,zI 4),(6,zP b6),(7,zP b7),(8,v18),(9,zI zz.1)]) (fun zz=>[.l zz.2.2.1,.l zz.2.2.2.2,.b b7 (.cells ⟨[zz.2.1,zS]⟩ 35 (0,0)),.l L18,.b b6 (.cells ⟨[zS,zS]⟩ 35 (0,0))]) (fun zz=>(0≤zz.1∧zz.2.2.2.1.length+zz.1=w21)∧aw zz.2.1 2 142 pd zz.2.2.2.1 zz.2.2.1∧nZ M6 zz.2.2.2.1∧bK vd xs d zz.2.2.2.2) (fun zz=>zz.1.toNat) (⟨w21,zS,[],[],X21⟩) ⟨by simp only[List.length_nil];omega,aw.nil _ _ _,(fun i c h=>by simp at h),aS2⟩ [0,1,4,2,5] ?_
 rintro⟨j,vC,LC,cs,X⟩ hI K1 bF rest
 dsimp only at hI
 have hlen:M6.length=9:=by rw[Rz.length_eq,fZ];rfl
 refine zD 6<|zJ 23 (j>0) (fun h1=>?_) fun h1=>?_
 ·
  refine jd 10 [2,2]<|CG hI.2.1 ?_
  obtain⟨x33,ag1⟩:=zG M6 (cs.length)
  refine A0 1 abK ag1 fun b33 aRW=>kJ 0 [3] L18 (fun s _ hZ=>bn abK aRW hZ ag1)<|jd 3 [2]<|CG hI.2.1<|ja ((cs.length:Int)-1) (by omega)<|aS 2 fun yD yK ya=>jc [] (agA) ?_
  rintro v28 L28 ⟨_,ahL,rfl⟩
  refine eo ya (zN 1 5) ?_
  obtain⟨x35,Vj⟩:=zG nB (x33.toNat) (by have:=nD (Rz.mem_iff.1 (zL ag1));omega)
  refine mW x33 1 ahL Vj (Int.toNat_of_nonneg (show 0≤x33∧x33 <((nB).length:Int) from (nD (Rz.mem_iff.1 (zL ag1)))).1).symm fun b35 aRU=>kJ 0 [0] L28 (fun s _ hZ=>bn ahL aRU hZ Vj)<|aS 16 fun oh ov mZ=>jc (vs:=[zP d,zI (-1),zI ((cs.length:Int)-1)]) [2] (Bq hN hI.2.2.2 (by omega) (by omega)) ?_
  rintro _ X42 ⟨w42,rfl,bbG,Vh,aSW⟩
  refine gx mZ [[1],[3],[4],[3],[3]]<|zD 1<|aS 18 fun pX p6 oZ=>jn fun BT=>eo oZ (zN 1 6)<|aS 19 fun yC yJ zm=>iE (sz:=2) (ps:=cs) (qs:=[(⟨x35,w42⟩:bO)]) (enc:=pd) (w:= .slice (some ⟨BT,0,none⟩) 1 1) [3] [0] [(BT,.cells ⟨([(⟨x35,w42⟩:bO)].map pd).flatten⟩ 142 (0,0))] (hI.2.1) (fun s _ hZ=>bN [(⟨x35,w42⟩:bO)] (hZ _ (.head _)) (by intro p hp;rfl)) (fun p _=>ai rfl) (by simp<;>omega) (fun v45 L45 ahv=>?_)
  obtain⟨as7,asX,axh⟩:=ahv.form
  subst axh
  refine gx zm [[3],[4],[5],[4]]<|zD 1<|aS 21 fun adj ad5 hL6=>jd 1 [4]<|fU hL6<|zD 3<|ja (j-1) (by omega)<|zD 2<|bE bF (⟨j-1,(.slice as7 ((cs++[(⟨x35,w42⟩:bO)])).length asX),L45,(cs++[(⟨x35,w42⟩:bO)]),X42⟩) ⟨by simp only[zM];omega,ahv,nZ.snoc hI.2.2.1 ag1 Vj (by omega),aSW⟩ (by omega) [0,2,4,5,6] (Sub.refl _)
 refine zD 5<|jc [] (agQ) ?_
 rintro v48 L48 ⟨_,aPX,rfl⟩
 refine CG aPX<|zD 2<|jc (vs:=[zP d,zI 4]) [2] (EL hN hI.2.2.2 (by omega)) ?_
 rintro _ X52 ⟨w52,rfl,bbF,sY,aSV⟩
 refine jc (vs:=[zP d,zI (pw.length:Int),zI w52]) [0] (aHT hN aSV (by first|omega|decide)) ?_
 rintro v53 _ ⟨kD,L53,X53,awr,bcJ,wD,ahQ,rfl,aoQ⟩
 refine jg 0 [.l L53,.l X53]<|zD 5<|CG awr<|zD 8<|n8<|n8<|dB [1,1,1,1,1,1,0,1,0,0] [] (fun(zz:Nat×Value×Cells×(List bA)×(List cy)×Cells×Cells)=>[(0,zP d),(6,zP b6),(7,zP b7),(10,v53),(11,zI (kD.length:Int)),(12,zI (zz.1:Int))]) (fun zz=>[.l zz.2.2.1,.l zz.2.2.2.2.2.1,.l zz.2.2.2.2.2.2,.l LC,.b b7 (.cells ⟨[vC,zz.2.1]⟩ 35 (0,0)),.l L53,.b b6 (.cells ⟨[zS,zS]⟩ 35 (0,0))]) (fun zz=>zz.1≤kD.length∧aw zz.2.1 4 145 mf zz.2.2.2.1 zz.2.2.1∧mT kD cs.length zz.2.2.2.1 zz.2.2.2.2.1 zz.2.2.2.2.2.1 zz.1∧bK vd xs d zz.2.2.2.2.2.2) (fun zz=>kD.length-zz.1) (⟨0,zS,[],[],[],[],X53⟩) ⟨by omega,aw.nil _ _ _,⟨fun _ _=> .nil,rfl,rfl,(fun k x h=>by simp at h),.nil⟩,aoQ⟩ [1,0,3,5,6,2,8] ?_
 rintro⟨i,vH,LH,hv,hd,Z,X⟩ hJ K7 hK7 rest
 dsimp only at hJ
 have hll:=hJ.2.2.1.2.2.1
 have Tv:kD.length≤4:=by omega
 have iL:cs.length≤3:=by omega
 refine zD 7<|zJ 58 ((i:Int) <(kD.length:Int)) (fun h7=>?_) fun h7=>?_
 ·
  refine zD 5<|Es [1,1,1,1,1,1,0,1,0,0,1,0,0,1] [K7] (fun(zz:Nat×Int×Int×ByteArray×Cells)=>[(0,zP d),(6,zP b6),(7,zP b7),(10,v53),(11,zI (kD.length:Int)),(12,zI (i:Int)),(13,zP zz.1)]) (fun zz=>[.b zz.1 (.cells ⟨[.string zz.2.2.2.1,zI zz.2.1,zI (-1),zS]⟩ 145 (0,0)),.l LH,.l Z,.l zz.2.2.2.2,.l LC,.b b7 (.cells ⟨[vC,vH]⟩ 35 (0,0)),.l L53,.b b6 (.cells ⟨[zS,zS]⟩ 35 (0,0))]) (fun zz=>kD[i]?=some zz.2.2.1∧pw[zz.2.2.1.toNat]?=some zz.2.2.2.1∧(0≤zz.2.1∧zz.2.1 <cs.length)∧bK vd xs d zz.2.2.2.2) ?_ (fun K8 hK8=>?_)
  ·
   rintro⟨vy,w,y,x,X⟩ TJ rest
   dsimp only at TJ
   refine zD 2<|Es [1,1,1,1,1,1,0,1,0,0,1,0,0,1,0,1] [K7] (fun(zz:Bool×Cells)=>[(0,zP d),(6,zP b6),(7,zP b7),(10,v53),(11,zI (kD.length:Int)),(12,zI (i:Int)),(13,zP vy),(80,.bool zz.1)]) (fun zz=>[.b vy (.cells ⟨[.string x,zI w,zI (-1),zS]⟩ 145 (0,0)),.l LH,.l Z,.l zz.2,.l LC,.b b7 (.cells ⟨[vC,vH]⟩ 35 (0,0)),.l L53,.b b6 (.cells ⟨[zS,zS]⟩ 35 (0,0))]) (fun zz=>(zz.1=true→1 <kD.length)∧bK vd xs d zz.2) ?_ (fun K9 hK9=>?_)
   ·
    rintro⟨q,X⟩ hJ3 rest
    dsimp only at hJ3
    refine js 80 q (fun h8=>?_) (fun h8=>?_)
    ·
     subst h8
     have hgt:=hJ3.1 rfl
     refine zD 4<|ja ((i:Int)+1) (by omega)<|zD 2<|ja ((kD.length:Int)-2) (by omega)<|zD 2<|aS 5 fun Fx FY wG=>jc (vs:=[zP d,zI ((kD.length:Int)-2)]) [3] (EL hN hJ3.2 (by omega)) ?_
     rintro _ X86 ⟨w86,rfl,bbD,bby,aSP⟩
     refine gx wG []<|ja (((i:Int)+1)+w86) (by omega)<|jrm (k:= .i64) (a:=(((i:Int)+1)+w86)) (b:=(kD.length:Int)) 3 (by omega)<|aS 10 fun Fw FX zn=>jd 1 [1]<|gx zn []<|zD 1<|aS 12 fun Pm PJ C3=>jd 1 [1]<|fU C3<|jd 6 [5,1]<|jn fun b95=>iE (sz:=4) (ps:=hv) (qs:=[(⟨x,(-1),(Int.tmod (((i:Int)+1)+w86) (kD.length:Int)),zS⟩:bA)]) (enc:=mf) (w:= .slice (some ⟨b95,0,none⟩) 1 1) [3] [0] [(b95,.cells ⟨([(⟨x,(-1),(Int.tmod (((i:Int)+1)+w86) (kD.length:Int)),zS⟩:bA)].map mf).flatten⟩ 145 (0,0))] (hJ.2.1) (fun s _ hZ=>bN [(⟨x,(-1),(Int.tmod (((i:Int)+1)+w86) (kD.length:Int)),zS⟩:bA)] (hZ _ (.head _)) (by intro p hp;rfl)) (by intro p hp;rw[List.mem_singleton] at hp;subst hp;exact ai rfl) (by simp<;>omega) (fun v96 L96 ahq=>?_)
     obtain⟨aLA,aLg,aQ1⟩:=ahq.form
     subst aQ1
     refine jd 6 [6]<|ja ((i:Int)+1) (by omega)<|zD 2<|bE hK7 (⟨i+1,(.slice aLA ((hv++[(⟨x,(-1),(Int.tmod (((i:Int)+1)+w86) (kD.length:Int)),zS⟩:bA)])).length aLg),L96,(hv++[(⟨x,(-1),(Int.tmod (((i:Int)+1)+w86) (kD.length:Int)),zS⟩:bA)]),_,Z,X86⟩) ⟨by omega,ahq,(by have:=mT.snoc (A:=[]) hJ.2.2.1 (h0:=⟨rfl,rfl,rfl⟩) (hV:=⟨x,-1,(Int.tmod (((i:Int)+1)+w86) (kD.length:Int)),zS⟩) (x:=⟨x,-1,(Int.tmod (((i:Int)+1)+w86) (kD.length:Int)),[]⟩) (fun ro _=>⟨rfl,rfl,rfl,bC.nil _ _ _ _ _⟩) TJ.1 TJ.2.1 (ah6 (ane ⟨by omega,by omega⟩ ⟨by omega,by omega⟩) (by omega));simpa only[List.nil_append] using this),aSP⟩ (by omega) [0,4,2,5,6,7,8] (Sub.refl _)
    subst h8
    refine zD 8<|n8<|dB [1,1,1,1,1,1,0,1,0,0,1,0,0,1,1,0,1,0,0] [K7] (fun(zz:Nat×Value×Cells×(List Int)×Cells)=>[(0,zP d),(6,zP b6),(7,zP b7),(10,v53),(11,zI (kD.length:Int)),(12,zI (i:Int)),(13,zP vy),(14,zI (zz.1:Int))]) (fun zz=>[.l zz.2.2.1,.l zz.2.2.2.2,.b vy (.cells ⟨[.string x,zI w,zI (-1),zz.2.1]⟩ 145 (0,0)),.l LH,.l Z,.l LC,.b b7 (.cells ⟨[vC,vH]⟩ 35 (0,0)),.l L53,.b b6 (.cells ⟨[zS,zS]⟩ 35 (0,0))]) (fun zz=>(zz.1≤kD.length∧zz.2.2.2.1.length≤zz.1)∧aw zz.2.1 1 3 cm zz.2.2.2.1 zz.2.2.1∧lK i zz.1 zz.2.2.2.1∧bK vd xs d zz.2.2.2.2) (fun zz=>kD.length-zz.1) (⟨0,zS,[],[],X⟩) ⟨by simp,aw.nil _ _ _,⟨by simp,by simp,by simp⟩,hJ3.2⟩ [0,4,1,2,3,5,6,7,8] ?_
    rintro⟨k,vA,LA,al,X⟩ hK K13 NX rest
    dsimp only at hK
    obtain⟨qa,qc,rfl⟩:=hK.2.1.form
    refine zD 7<|zJ 100 ((k:Int) <(kD.length:Int)) (fun zp=>?_) fun zp=>?_
    ·
     refine zD 10<|js 106 (!decide ((k:Int)=(i:Int))) (fun uU=>?_) (fun uU=>?_)
     ·
      have HK:=uU
      replace HK:=of_decide_eq_false (by simpa using HK)
      refine zD 1<|jc (vs:=[zP d,zI 4]) [1] (tv hN hK.2.2.2 (by omega)) ?_
      rintro _ aIH ⟨aLe,rfl,arU⟩
      refine zD 2<|js 109 aLe (fun h14=>?_) (fun h14=>?_)
      ·
       subst h14
       refine jd 5 [2]<|jn fun aIo=>iE (sz:=1) (ps:=al) (qs:=[(k:Int)]) (enc:=cm) (w:= .slice (some ⟨aIo,0,none⟩) 1 1) [2] [0] [(aIo,.cells ⟨([(k:Int)].map cm).flatten⟩ 3 (0,0))] (hK.2.1) (fun s _ hZ=>bN [(k:Int)] (hZ _ (.head _)) (by intro p hp;rfl)) (fun p _=>ai rfl) (by simp<;>omega) (fun aZk aUV YU=>?_)
       obtain⟨aA9,aA2,aF5⟩:=YU.form
       subst aF5
       refine jd 5 [3]<|ja ((k:Int)+1) (by omega)<|zD 2<|bE NX (⟨k+1,(.slice aA9 ((al++[(k:Int)])).length aA2),aUV,(al++[(k:Int)]),aIH⟩) ⟨by simp only[zM];omega,YU,lK.snoc hK.2.2.1 (by omega),arU⟩ (by omega) [0,2,3,4,5,6,7,8,9] (Sub.refl _)
      subst h14
      refine zD 4<|ja ((k:Int)+1) (by omega)<|zD 2<|bE NX (⟨k+1,(.slice qa al.length qc),LA,al,aIH⟩) ⟨by dsimp only;omega,hK.2.1,lK.step hK.2.2.1,arU⟩ (by omega) [1,0,2,3,4,5,6,7,8] (Sub.refl _)
     have HK:=uU
     replace HK:=of_decide_eq_true (by simpa using HK)
     refine zD 8<|ja ((k:Int)+1) (by omega)<|zD 2<|bE NX (⟨k+1,(.slice qa al.length qc),LA,al,X⟩) ⟨by dsimp only;omega,hK.2.1,lK.step hK.2.2.1,hK.2.2.2⟩ (by omega) (zN 0 9) (Sub.refl _)
    refine jd 10 [2]<|js 120 (decide ((al.length:Int)>0)) (fun N0=>?_) (fun N0=>?_)
    ·
     have HJ:=N0
     replace HJ:=of_decide_eq_true HJ
     refine zD 1<|jc (vs:=[zP d,zI 4]) [1] (tv hN hK.2.2.2 (by omega)) ?_
     rintro _ aIG ⟨aLb,rfl,arT⟩
     refine zD 2<|js 123 aLb (fun V4=>?_) (fun V4=>?_)
     ·
      subst V4
      refine jd 9 [2,6,2]<|jn fun OB=>iE (sz:=4) (ps:=hv) (qs:=[(⟨x,(-1),-1,(.slice qa al.length qc)⟩:bA)]) (enc:=mf) (w:= .slice (some ⟨OB,0,none⟩) 1 1) [4] [0] [(OB,.cells ⟨([(⟨x,(-1),-1,(.slice qa al.length qc)⟩:bA)].map mf).flatten⟩ 145 (0,0))] (hJ.2.1) (fun s _ hZ=>bN [(⟨x,(-1),-1,(.slice qa al.length qc)⟩:bA)] (hZ _ (.head _)) (by intro p hp;rfl)) (by intro p hp;rw[List.mem_singleton] at hp;subst hp;exact ai rfl) (by simp<;>omega) (fun aBh akN rj=>?_)
      obtain⟨Pv,Pu,R5⟩:=rj.form
      subst R5
      refine jd 5 [7]<|ja ((i:Int)+1) (by omega)<|zD 2<|KY hK7 (⟨i+1,(.slice Pv ((hv++[(⟨x,(-1),-1,(.slice qa al.length qc)⟩:bA)])).length Pu),akN,(hv++[(⟨x,(-1),-1,(.slice qa al.length qc)⟩:bA)]),_,LA++Z,aIG⟩) ⟨by omega,rj,mT.snoc (A:=LA) hJ.2.2.1 (h0:=⟨rfl,rfl,rfl⟩) (x:=⟨x,_,-1,al⟩) (fun ro hk=>⟨rfl,rfl,rfl,hK.2.1.jW hk⟩) TJ.1 TJ.2.1 (ah7 hK.2.2.1 (by omega) (by omega) (by assumption)),arT⟩ (by omega) [[0],[3,5],[2],[6],[7],[8],[9]] (Sub.refl _)
     subst V4
     refine jd 6 [6,2]<|jn fun OB=>iE (sz:=4) (ps:=hv) (qs:=[(⟨x,w,-1,(.slice qa al.length qc)⟩:bA)]) (enc:=mf) (w:= .slice (some ⟨OB,0,none⟩) 1 1) [4] [0] [(OB,.cells ⟨([(⟨x,w,-1,(.slice qa al.length qc)⟩:bA)].map mf).flatten⟩ 145 (0,0))] (hJ.2.1) (fun s _ hZ=>bN [(⟨x,w,-1,(.slice qa al.length qc)⟩:bA)] (hZ _ (.head _)) (by intro p hp;rfl)) (by intro p hp;rw[List.mem_singleton] at hp;subst hp;exact ai rfl) (by simp<;>omega) (fun aBh akN rj=>?_)
     obtain⟨Pv,Pu,R5⟩:=rj.form
     subst R5
     refine jd 5 [7]<|ja ((i:Int)+1) (by omega)<|zD 2<|KY hK7 (⟨i+1,(.slice Pv ((hv++[(⟨x,w,-1,(.slice qa al.length qc)⟩:bA)])).length Pu),akN,(hv++[(⟨x,w,-1,(.slice qa al.length qc)⟩:bA)]),_,LA++Z,aIG⟩) ⟨by omega,rj,mT.snoc (A:=LA) hJ.2.2.1 (h0:=⟨rfl,rfl,rfl⟩) (x:=⟨x,_,-1,al⟩) (fun ro hk=>⟨rfl,rfl,rfl,hK.2.1.jW hk⟩) TJ.1 TJ.2.1 (Lf (by omega) hK.2.2.1 (by omega) (by omega)),arT⟩ (by omega) [[0],[3,5],[2],[6],[7],[8],[9]] (Sub.refl _)
    have HJ:=N0
    replace HJ:=of_decide_eq_false HJ
    refine jd 10 [6,2]<|jn fun OB=>iE (sz:=4) (ps:=hv) (qs:=[(⟨x,w,-1,(.slice qa al.length qc)⟩:bA)]) (enc:=mf) (w:= .slice (some ⟨OB,0,none⟩) 1 1) [4] [0] [(OB,.cells ⟨([(⟨x,w,-1,(.slice qa al.length qc)⟩:bA)].map mf).flatten⟩ 145 (0,0))] (hJ.2.1) (fun s _ hZ=>bN [(⟨x,w,-1,(.slice qa al.length qc)⟩:bA)] (hZ _ (.head _)) (by intro p hp;rfl)) (by intro p hp;rw[List.mem_singleton] at hp;subst hp;exact ai rfl) (by simp<;>omega) (fun aBh akN rj=>?_)
    obtain⟨Pv,Pu,R5⟩:=rj.form
    subst R5
    refine jd 5 [7]<|ja ((i:Int)+1) (by omega)<|zD 2<|KY hK7 (⟨i+1,(.slice Pv ((hv++[(⟨x,w,-1,(.slice qa al.length qc)⟩:bA)])).length Pu),akN,(hv++[(⟨x,w,-1,(.slice qa al.length qc)⟩:bA)]),_,LA++Z,X⟩) ⟨by omega,rj,mT.snoc (A:=LA) hJ.2.2.1 (h0:=⟨rfl,rfl,rfl⟩) (x:=⟨x,_,-1,al⟩) (fun ro hk=>⟨rfl,rfl,rfl,hK.2.1.jW hk⟩) TJ.1 TJ.2.1 (Lf (by omega) hK.2.2.1 (by omega) (by omega)),hK.2.2.2⟩ (by omega) [[0],[2,5],[3],[6],[7],[8],[9]] (Sub.refl _)
   refine zD 4<|js 77 (decide ((kD.length:Int)>1)) (fun h17=>?_) (fun h17=>?_)
   ·
    have HI:=h17
    replace HI:=of_decide_eq_true HI
    refine zD 1<|jc (vs:=[zP d,zI 3]) [3] (tv hN TJ.2.2.2 (by omega)) ?_
    rintro _ X79 ⟨w79,rfl,aSR⟩
    refine zD 2<|bE hK9 ⟨w79,X79⟩ ⟨fun _=>by omega,aSR⟩ Nat.zero_lt_one [1,2,3,0,4,5,6,7] (Sub.refl _)
   have HI:=h17
   replace HI:=of_decide_eq_false HI
   refine zD 4<|bE hK9 ⟨false,X⟩ ⟨(fun h=>by cases h),TJ.2.2.2⟩ Nat.zero_lt_one (zN 0 8) (Sub.refl _)
  refine zD 3 ?_
  obtain⟨x64,Ny⟩:=zG kD i
  refine A0 1 awr Ny fun b64 aRM=>kJ 0 [5] L53 (fun s _ hZ=>bn awr aRM hZ Ny)<|jd 3 [4]<|CG hI.2.1<|ja ((cs.length:Int)-1) (by omega)<|IV [0,14] ⟨fun z14 t15 EG=>?_,fun z17 t18 V1=>?_,trivial⟩
  ·
   refine jc [] (agQ) ?_
   rintro v61 L61 ⟨_,ahI,rfl⟩
   refine eo EG (zN 1 7) ?_
   obtain⟨x66,G7⟩:=zG pw (x64.toNat) (by have:=ahQ _ (zL Ny);omega)
   refine mW x64 1 ahI G7 (Int.toNat_of_nonneg (show 0≤x64∧x64 <((pw).length:Int) from (ahQ _ (zL Ny))).1).symm fun b66 axH=>kJ 0 [0] L61 (fun s _ hZ=>bn ahI axH hZ G7)<|IV [12,14] ⟨fun z20 t21 aiF=>?_,fun z23 t24 VY=>?_,trivial⟩
   ·
    refine jc (vs:=[zP d,zI ((cs.length:Int)-1)]) [3] (EL hN hJ.2.2.2 (by omega)) ?_
    rintro _ X73 ⟨w73,rfl,aEr,abB,aiL⟩
    refine gx aiF [[1],[5],[6]]<|zD 1<|aS 14 fun ado aea EE=>jn fun vy=>eo EE (zN 1 8)<|aS 15 fun Pj PI C1=>jd 1 [0]<|fU C1<|zD 1<|bE hK8 ⟨vy,w73,_,x66,X73⟩ ⟨Ny,G7,(by dsimp only;omega),aiL⟩ Nat.zero_lt_one [0,3,4,1,5,6,7,8] (Sub.refl _)
   refine jn fun vy=>eo VY (zN 1 8)<|aS 12 fun Ph PH HG=>jc (vs:=[zP d,zI ((cs.length:Int)-1)]) [4] (EL hN hJ.2.2.2 (by omega)) ?_
   rintro _ X73 ⟨w73,rfl,aEr,abB,aiL⟩
   refine gx HG [[2],[6],[7]]<|zD 1<|aS 15 fun Pg PG HF=>jd 1 [1]<|fU HF<|zD 1<|bE hK8 ⟨vy,w73,_,x66,X73⟩ ⟨Ny,G7,(by dsimp only;omega),aiL⟩ Nat.zero_lt_one [1,3,4,0,5,6,7,8] (Sub.refl _)
  refine jn fun vy=>eo V1 (zN 1 7)<|aS 0 fun adn ad9 NT=>jc [] (agQ) ?_
  rintro v61 L61 ⟨_,ahI,rfl⟩
  refine eo NT (zN 1 8) ?_
  obtain⟨x66,G7⟩:=zG pw (x64.toNat) (by have:=ahQ _ (zL Ny);omega)
  refine mW x64 1 ahI G7 (Int.toNat_of_nonneg (show 0≤x64∧x64 <((pw).length:Int) from (ahQ _ (zL Ny))).1).symm fun b66 axH=>kJ 0 [0] L61 (fun s _ hZ=>bn ahI axH hZ G7)<|aS 12 fun adm ad8 Sc=>jc (vs:=[zP d,zI ((cs.length:Int)-1)]) [4] (EL hN hJ.2.2.2 (by omega)) ?_
  rintro _ X73 ⟨w73,rfl,aEr,abB,aiL⟩
  refine gx Sc [[1],[6],[7]]<|zD 1<|aS 15 fun ap0 aqm VX=>jd 1 [2]<|fU VX<|zD 1<|bE hK8 ⟨vy,w73,_,x66,X73⟩ ⟨Ny,G7,(by dsimp only;omega),aiL⟩ Nat.zero_lt_one [2,3,4,0,5,6,7,8] (Sub.refl _)
 refine jd 5 [4] ?_
 obtain⟨adU,adM,aic⟩:=hI.2.1.form
 subst aic
 obtain⟨aLM,aLs,aRa⟩:=hJ.2.1.form
 subst aRa
 refine jd 3 [6]<|zR (.agg ⟨[(.slice adU (cs).length adM),(.slice aLM (hv).length aLs)]⟩) [6] [3,0,1,2] (LC++(LH++(Z++X))) ⟨cs,hv,hd,_,_,LC++(LH++Z),X,rfl,aas hI.2.2.1 Rz (by omega) hJ.2.2.1 (by omega) (by omega) wD ahQ,hJ.2.2.1.2.2.2.2,fun aG hk=>⟨hI.2.1.jW hk.left,hJ.2.1.jW hk.right.left,hJ.2.2.1.1 aG hk.right.right⟩,by simp only[List.append_assoc],hJ.2.2.2⟩
abbrev fK(x:Value):List Value:=[x]
structure ah where
 n:Int
 l:Int
abbrev cJ(x:ah):List Value:=[zI x.n,zI x.l]
def amN(x y:ah):Prop:=x.n <y.n∨(x.n=y.n∧x.l <y.l)
def BF(x:ah):Prop:=(1≤x.n∧x.n≤9)∧0≤x.l∧x.l≤4
structure eQ(S:List (List ah)):Prop where
 two:S.length=2
 len:∀l∈S,l.length≤4
 ok:∀l∈S,∀x∈l,BF x
 asc:∀l∈S,l.Pairwise amN
def yW:List (List ah):=[[⟨1,0⟩,⟨2,0⟩],[⟨1,0⟩,⟨3,0⟩]]
def cU(ro:Nat→Option Obj)(v:Value)(S:List (List ah)):Prop:=∃ws,bC ro v 1 fK ws∧di (fun w l=>bC ro w 2 cJ l) ws S
def nU(ro:Nat→Option Obj)(v:Value)(ways:List (List aO)):Prop:=∃ws,bC ro v 1 fK ws∧di (fun w l=>bC ro w 7 kO l) ws ways
theorem cU.up{v:Value}{S:List (List ah)}(h:cU ro v S)(hs:Sub ro aD):cU aD v S:=by
 obtain⟨ws,h1,h2⟩:=h
 exact⟨ws,h1.up hs,h2.imp fun _ _ k=>k.up hs⟩
theorem nU.up{v:Value}{w:List (List aO)}(h:nU ro v w)(hs:Sub ro aD):nU aD v w:=by
 obtain⟨ws,h1,h2⟩:=h
 exact⟨ws,h1.up hs,h2.imp fun _ _ k=>k.up hs⟩
theorem jb.up{hv:List bA}(h:jb ro vc vh cs hv hd)(hs:Sub ro aD):jb aD vc vh cs hv hd:=
 ⟨h.1.up hs,h.2.1.up hs,h.2.2.imp fun _ _ k=>⟨k.1,k.2.1,k.2.2.1,k.2.2.2.up hs⟩⟩
structure aB where
 ways:List (List aO)
 cs:List bO
 hd:List cy
 rules:List bQ
 before:List aA
 after:List aA
 gone:Int
 new:Int
 af:Int
 facts:List bM
 str:List (List ah)
def fF(ro:Nat→Option Obj)(l:List Value)(k:aB):Prop:=∃(vS vT vc vh vr vb va vf:Value) (fa:Option Addr) (fc:Nat) (hv:List bA),
 l=[vS,vT,.slice fa 0 fc,vc,vh,vr,vb,va,zI k.gone,zI k.new,zI k.af,vf]∧cU ro vS k.str∧nU ro vT k.ways∧jb ro vc vh k.cs hv k.hd∧di dq hv k.hd∧
 bC ro vr 2 iG k.rules∧bC ro vb 5 eA k.before∧bC ro va 5 eA k.after∧bC ro vf 3 m8 k.facts
def nX(hd:List cy)(i:Int):Prop:=i= -1∨(0≤i∧∃x,hd[i.toNat]?=some x∧0≤x.cls)
def BG(hd:List cy)(p:aA):Prop:=OL p.name∧nX hd p.head∧(0≤p.st∧p.st≤1)∧p.bold=false
def akG(hd:List cy)(p:aA):Prop:=BG hd p∧(p.st=0→p.no=1∨p.no=2)∧(p.st=1→p.no=1∨p.no=3)
def akH(hd:List cy)(p:aA):Prop:=BG hd p∧1≤p.no∧p.no≤3
def Fu(hd:List cy)(p:aA):Prop:=((1≤p.name.size∧p.name.size≤6)∧Script p.name)∧nX hd p.head∧(0≤p.st∧p.st≤1)∧p.bold=false
def apG(S:List (List ah))(hd:List cy)(p:aA):Prop:=Fu hd p∧∃l,S[p.st.toNat]?=some l∧(⟨p.no,0⟩:ah)∈l
def aIK(hd:List cy)(p:aA):Prop:=Fu hd p∧1≤p.no∧p.no≤40
structure Z5(cs:List bO)(hd:List cy):Prop where
 nc:0 <cs.length∧cs.length≤6
 nh:hd.length≤6
 A8:∀(i:Nat) (x:cy),hd[i]?=some x→gG cs.length hd.length i x
structure jz(k:aB):Prop where
 oS:eQ k.str
 ways:k.ways.length≤1∧∀l∈k.ways,(1≤l.length∧l.length≤2)∧∀c∈l,jA c
 c8:Z5 k.cs k.hd
 rules:k.rules.length≤4
 before:k.before.length≤4∧∀p∈k.before,apG k.str k.hd p
 after:k.after.length≤4∧∀p∈k.after,aIK k.hd p
 tZ:(0≤k.gone∧k.gone≤4)∧(0≤k.new∧k.new≤4)∧(0≤k.af∧k.af≤4)
 facts:k.facts.length≤4∧(∀x∈k.facts,(0≤x.a∧x.a <k.before.length)∧(0≤x.b∧x.b <k.after.length))
 apart:k.facts.Pairwise fun x y=>¬(x.a=y.a∧x.b=y.b)
structure Tf(k:aB):Prop where
 ways:k.ways.length≤1∧∀l∈k.ways,(1≤l.length∧l.length≤2)∧∀c∈l,jA c
 c8:xd k.cs k.hd
 rules:k.rules.length≤2∧∀r∈k.rules,IG r
 before:k.before.length≤4∧∀p∈k.before,akG k.hd p
 after:k.after.length≤4∧∀p∈k.after,akH k.hd p
 tZ:(0≤k.gone∧k.gone≤4)∧(0≤k.new∧k.new≤4)∧(0≤k.af∧k.af≤4)
 facts:k.facts.length≤4∧(∀x∈k.facts,(0≤x.a∧x.a <k.before.length)∧(0≤x.b∧x.b <k.after.length))
 apart:k.facts.Pairwise fun x y=>¬(x.a=y.a∧x.b=y.b)
 str:k.str=yW
theorem aa1:eQ yW where
 two:=rfl
 len:=by simp[yW]
 ok:=by simp[yW,BF]
 asc:=by simp[yW,amN]
theorem BG.c{p:aA}(h:BG hd p):Fu hd p:=⟨⟨⟨h.1.1.1,by have:=h.1.1.2;omega⟩,h.1.2⟩,h.2⟩
theorem Tf.c{k:aB}(h:Tf k):jz k where
 oS:=by rw[h.str];exact aa1
 ways:=h.ways
 c8:=⟨⟨h.c8.nc.1,by have:=h.c8.nc.2;omega⟩,by have:=h.c8.nh;omega,fun i x hx=>(h.c8.A8 i x hx).2⟩
 rules:=by have:=h.rules.1;omega
 before:=⟨by have:=h.before.1;omega,fun p hp=>by
  obtain⟨h1,h2,h3⟩:=h.before.2 p hp
  refine⟨h1.c,?_⟩
  rw[h.str]
  have h4:=h1.2.2.1
  rcases(by omega:p.st=0∨p.st=1) with e|e
  ·rw[e];exact⟨_,rfl,by rcases h2 e with e2|e2<;>simp[e2]⟩
  rw[e];exact⟨_,rfl,by rcases h3 e with e2|e2<;>simp[e2]⟩⟩
 after:=⟨by have:=h.after.1;omega,fun p hp=>by
  obtain⟨h1,h2,h3⟩:=h.after.2 p hp
  exact⟨h1.c,h2,by omega⟩⟩
 tZ:=h.tZ
 facts:=⟨by have:=h.facts.1;omega,h.facts.2⟩
 apart:=h.apart
theorem xF{hv:List bA}(h:di dq hv hd){i:Int}(k:i= -1∨Xa hv i):nX hd i:=by
 rcases k with k| ⟨k0,x,k1,k2⟩
 ·exact .inl k
 obtain⟨y,h1,h2⟩:=h.get k1
 exact .inr ⟨k0,y,h1,h2.2.1▸k2⟩
theorem Uc{c e:Nat}(h1:ro b=some (.cells ⟨[zI 1,zI 0,zI 2,zI 0]⟩ 79 (0,0)))(h2:ro c=some (.cells ⟨[zI 1,zI 0,zI 3,zI 0]⟩ 79 (0,0)))
 (h3:ro e=some (.cells ⟨[.slice (some ⟨b,0,none⟩) 2 2,.slice (some ⟨c,0,none⟩) 2 2]⟩ 80 (0,0))):cU ro (.slice (some ⟨e,0,none⟩) 2 2) yW:=
 ⟨_,bU [_,_] h3 (fun _ _=>rfl),.cons (bU [(⟨1,0⟩:ah),⟨2,0⟩] h1 (fun _ _=>rfl)) (.cons (bU [(⟨1,0⟩:ah),⟨3,0⟩] h2 (fun _ _=>rfl)) .nil)⟩
def BH(nb na:Nat)(fs:List bM):Prop:=(∀x∈fs,(0≤x.a∧x.a <nb)∧(0≤x.b∧x.b <na))∧fs.Pairwise fun x y=>¬(x.a=y.a∧x.b=y.b)
theorem BH.snoc{nb na:Nat}(h:BH nb na fs){x:bM}(ha:0≤x.a∧x.a <nb)(hb:0≤x.b∧x.b <na)(hn:Dw fs x.a x.b=false):BH nb na (fs++[x]):=by
 refine⟨qG h.1 ⟨ha,hb⟩,List.pairwise_append.2 ⟨h.2,List.pairwise_singleton _ _,fun y hy z hz e=>?_⟩⟩
 rw[List.mem_singleton] at hz;subst hz
 have:=List.any_eq_false.1 hn y hy
 simp[e.1,e.2] at this
theorem au4{w u:Int}(h:w∈[1,2,4,u])(hu:0≤u∧u≤4):0≤w∧w≤4:=by
 simp only[List.mem_cons,List.not_mem_nil,or_false] at h
 omega
theorem Uf:nU ro (zS) []:=⟨[],bC.nil _ _ _ _ _,.nil⟩
end Go.L
