/- Part 6 of the proof. -/
import Derived.Test.YthegconjacjohaaGreatDoorK5
import Derived.KernelRfl
import Derived.Lib.UnsafeStr
import Derived.Test.YthegconjacjohaaGreatDoorProg
set_option maxRecDepth 100000
set_option linter.all false
namespace Go.L
open Go Go.Conc
variable {ro pE aD:Nat→Option Obj} {xs al ys:List Int} {Φ:Value→Cells→Prop} {α β κ:Type} {vd vm vc vh s0 s1 s2 t0 t1 ru vb va:Value} {X fr:Cells} {o:Option JS} {args:List Value} {f:FuncId} {P:Program} {d i k n b ck nc sz nh r bE it:Nat} {seen:List Nat} {R:Ending→St→Prop} {E:TypeId} {many lo hi af gone new:Int} {nm:ByteArray} {ag:Bool}
def uQ(r ck:Nat)(seen:List Nat):Obj:= .mapIter (some r) ck ⟨seen⟩ ck
def cM(es:Array MapEntry)(seen:List Nat):List MapEntry:=es.toList.filter fun e=> !seen.contains e.born
theorem CE(es:Array MapEntry):cM es []=es.toList:=by simp[cM]
theorem abC{es:Array MapEntry}{e:MapEntry}:e∈cM es (seen++[b])↔e∈cM es seen∧e.born≠b:=by
 simp only[cM,List.mem_filter,Bool.not_eq_true',List.contains_eq_mem,List.mem_append,List.mem_singleton,decide_eq_false_iff_not,not_or,and_assoc]
theorem Ha{es:Array MapEntry}{e:MapEntry}(h:e∈cM es seen):(cM es (seen++[e.born])).length <(cM es seen).length:=by
 have:cM es (seen++[e.born])=(cM es seen).filter fun x=> !decide (x.born=e.born):=by
  simp only[cM,List.filter_filter]
  refine List.filter_congr fun x _=>?_
  simp only[List.contains_eq_mem,List.mem_append,List.mem_singleton,Bool.decide_or,Bool.not_or]
  rw[Bool.and_comm]
 rw[this]
 exact List.length_filter_lt_length_iff_exists.2 ⟨e,h,by simp⟩
def mrV(P:Program)(n:Nat)(p:Oper)(e:Env):Option Value:=match p.op with
 | .range T x=>match ba P T with
  |some ⟨.map _ _,_,_,_⟩=>bp n e x
  |_=>none
 |_=>none
def nmV(n:Nat)(p:Oper)(e:Env):Option Value:=match p.op with
 | .next x false=>bp n e x
 |_=>none
def enV(n:Nat)(p:Oper)(e:Env):Option Value:=match p.op with
 | .entry x=>bp n e x
 |_=>none
theorem Kh{s:St}{Q:β→St→Prop}{E:Halt→St→Prop}{k:Nat→Sem β}(hn:0 <n)(h:∀j,j <n→bO P (k j) s Q E):bO P (choose (.mapNext n) >>= k) s Q E:=by
 show (if (Question.mapNext n).forced=true then _ else _)
 split
 ·exact h 0 hn
 exact fun q=>h _ (Nat.mod_lt _ hn)
section
variable {X:Cx} {o:Option JS}
theorem jmR{es:Array MapEntry}(hm:X.ro r=some (.map es ck))(hj:∀b,J X (mZ [] (.pointer (some ⟨b,0,none⟩)) [(b,uQ r ck [])] o))(hv:eT X.n (mrV X.P X.n) o=some (.map (some r)):=by kernel_rfl)(hB:dN [] o=some []:=by kernel_rfl):J X o:=by
 refine jS (Φ:=fun v L'=>∃b,v= .pointer (some ⟨b,0,none⟩)∧L'=[(b,uQ r ck [])]) [] [] hv hB (fun p e hf=>?_) (fun v L' pG=>?_)
 ·unfold mrV at hf
  split at hf<;>try (cases hf;done)
  rename_i T x az
  split at hf<;>try (cases hf;done)
  rename_i dM
  obtain⟨bE,tf⟩:=av dM
  refine⟨by rw[az];simp,fun R Q E hQ=>?_⟩
  simp only[execOp,az,Instr.range,aa,a8 tf,aF hf]
  refine cG (.inl hm) rfl rfl ?_
  simp only[aa,ae,oh]
  intro b hb
  exact hQ _ _ ⟨b,rfl,rfl⟩
 obtain⟨b,rfl,rfl⟩:=pG
 exact hj b
theorem jmN{kv:κ→Value}{F:List (κ×Value)}{es:Array MapEntry}(i:Nat)(hm:X.ro r=some (.map es ck))(hE:tF kv F es ck)
 (hT:∀k v e,(k,v)∈F→e∈cM es seen→e.key=kv k→e.val=v→J X (mZ [i] (.tuple ⟨[.bool true,kv k,v]⟩) [(it,uQ r ck (seen++[e.born]))] o))
 (hF:cM es seen=[]→J X (mZ [i] (.tuple ⟨[.bool false]⟩) [(it,uQ r ck seen)] o))
 (hv:eT X.n (nmV X.n) o=some (.pointer (some ⟨it,0,none⟩)):=by kernel_rfl)(hB:dN [i] o=some [(it,uQ r ck seen)]:=by kernel_rfl):J X o:=by
 refine jS (Φ:=fun v L'=>(∃e,e∈cM es seen∧v= .tuple ⟨[.bool true,e.key,e.val]⟩∧L'=[(it,uQ r ck (seen++[e.born]))])∨(cM es seen=[]∧v= .tuple ⟨[.bool false]⟩∧L'=[(it,uQ r ck seen)])) [i] _ hv hB (fun p e hf=>?_) (fun v L' pG=>?_)
 ·unfold nmV at hf
  split at hf<;>try (cases hf;done)
  rename_i x az
  refine⟨by rw[az];simp,fun R Q E hQ=>?_⟩
  simp only[execOp,az,Instr.next,aa,aF hf]
  have hs:(⟨X.ro,[(it,uQ r ck seen)]++R⟩:St).rw=[]++(it,uQ r ck seen)::R:=rfl
  refine cG (o:=uQ r ck seen) (.inr (by rw[hs];exact fp)) rfl rfl ?_
  simp only[uQ,aa]
  refine cG (.inl hm) rfl rfl ?_
  simp only[aa]
  have hb:=hE.2.2
  have bW:¬((!(⟨seen⟩:Array Nat).isEmpty&& !es.isEmpty&&es.all (·.born≥ck))=true):=by
   intro h
   simp only[Bool.and_eq_true,Bool.not_eq_true',Array.all_eq_true,decide_eq_true_eq] at h
   obtain⟨⟨_,h1⟩,h2⟩:=h
   have u9:0 <es.size:=by
    rcases Nat.eq_zero_or_pos es.size with h0|h0
    ·simp[Array.isEmpty,h0] at h1
    exact h0
   have:=h2 0 u9
   have:=hb es[0] (by simp)
   omega
  rw[if_neg bW]
  have yh:(es.filter fun e=> !(⟨seen⟩:Array Nat).contains e.born)=⟨cM es seen⟩:=by
   rcases es with ⟨l⟩
   simp[cM]
  have hold:((⟨cM es seen⟩:Array MapEntry).filter fun e=>decide (e.born <ck))=⟨cM es seen⟩:=by
   have:(cM es seen).filter (fun e=>decide (e.born <ck))=cM es seen:=List.filter_eq_self.2 fun e he=>decide_eq_true (hb e (List.mem_filter.1 he).1)
   simp[this]
  have tq:((⟨cM es seen⟩:Array MapEntry).filter fun e=>decide (e.born≥ck))=⟨[]⟩:=by
   have:(cM es seen).filter (fun e=>decide (e.born≥ck))=[]:=List.filter_eq_nil_iff.2 fun e he=>by
    have:=hb e (List.mem_filter.1 he).1
    simp only[decide_eq_true_eq];omega
   simp[this]
  simp only[yh,hold,tq]
  cases hl:cM es seen with
  |nil=>
   simp only[List.isEmpty_toArray,List.isEmpty_nil,if_true]
   refine Kh (by simp) fun j hj=>?_
   have hc:(#[(none:Option MapEntry)]++((⟨[]⟩:Array MapEntry)++⟨[]⟩).map some)[j]?=some none:=by
    simp at hj
    subst hj;simp
   show bO X.P ((match (#[(none:Option MapEntry)]++((⟨[]⟩:Array MapEntry)++⟨[]⟩).map some)[j]? with|some (some e)=>_|some none=>_|none=>_) >>= fun v=>pure (Next.value v)) _ _ _
   rw[hc]
   exact hQ _ _ (.inr ⟨hl,rfl,rfl⟩)
  |cons e0 l=>
   have hem:(⟨e0::l⟩:Array MapEntry).isEmpty=false:=by simp
   simp only[hem,Bool.false_eq_true,if_false]
   have HQ:(#[]++((⟨e0::l⟩:Array MapEntry)++⟨[]⟩).map some:Array (Option MapEntry))=⟨(e0::l).map some⟩:=by simp
   rw[HQ]
   refine Kh (by simp) fun k cJ=>?_
   have cJ:k <(e0::l).length:=by simpa using cJ
   have hk:(⟨(e0::l).map some⟩:Array (Option MapEntry))[k]?=some (some (e0::l)[k]):=by
    rw[List.getElem?_toArray,List.getElem?_map,List.getElem?_eq_getElem cJ];rfl
   show bO X.P ((match (⟨(e0::l).map some⟩:Array (Option MapEntry))[k]? with|some (some e)=>_|some none=>_|none=>_) >>= fun v=>pure (Next.value v)) _ _ _
   rw[hk]
   simp only[aa]
   have mT:(⟨X.ro,[(it,Obj.mapIter (some r) ck ⟨seen⟩ ck)]++R⟩:St).rw=[]++(it,Obj.mapIter (some r) ck ⟨seen⟩ ck)::R:=rfl
   refine ei (o:= .mapIter (some r) ck ((⟨seen⟩:Array Nat).push (e0::l)[k].born) ck) rfl mT rfl ?_
   have hp:(⟨seen⟩:Array Nat).push (e0::l)[k].born=⟨seen++[(e0::l)[k].born]⟩:=by simp
   rw[hp]
   have:=hQ (.tuple ⟨[.bool true,(e0::l)[k].key,(e0::l)[k].val]⟩) [(it,uQ r ck (seen++[(e0::l)[k].born]))] (.inl ⟨_,by rw[hl];exact List.getElem_mem cJ,rfl,rfl⟩)
   exact this
 rcases pG with ⟨e,he,rfl,rfl⟩| ⟨h1,rfl,rfl⟩
 ·have:(e.key,e.val)∈F.map (fun x=>(kv x.1,x.2)):=by
   rw[←hE.1];exact List.mem_map_of_mem (f:=fun e:MapEntry=>(e.key,e.val)) (List.mem_filter.1 he).1
  obtain⟨⟨k,v⟩,h1,h2⟩:=List.mem_map.1 this
  simp only[Prod.mk.injEq] at h2
  have:=hT k v e h1 he h2.1.symm h2.2.symm
  rwa[h2.1,h2.2] at this
 exact hF h1
theorem jmE{kv:κ→Value}{F:List (κ×Value)}{es:Array MapEntry}{e:MapEntry}{k:κ}{v:Value}(i:Nat)(hm:X.ro r=some (.map es ck))(hE:tF kv F es ck)(he:e∈cM es seen)(hk:e.key=kv k)(hvl:e.val=v)
 (hj:J X (mZ [i] (.tuple ⟨[kv k,v]⟩) [(it,uQ r ck (seen++[e.born]))] o))
 (hv:eT X.n (enV X.n) o=some (.pointer (some ⟨it,0,none⟩)):=by kernel_rfl)(hB:dN [i] o=some [(it,uQ r ck (seen++[e.born]))]:=by kernel_rfl):J X o:=by
 refine jS (Φ:=fun w L'=>w= .tuple ⟨[kv k,v]⟩∧L'=[(it,uQ r ck (seen++[e.born]))]) [i] _ hv hB (fun p en hf=>?_) (fun w L' pG=>?_)
 ·unfold enV at hf
  split at hf<;>try (cases hf;done)
  rename_i x az
  refine⟨by rw[az];simp,fun R Q E hQ=>?_⟩
  simp only[execOp,az,Instr.entry,aa,aF hf]
  have hs:(⟨X.ro,[(it,uQ r ck (seen++[e.born]))]++R⟩:St).rw=[]++(it,uQ r ck (seen++[e.born]))::R:=rfl
  refine cG (o:=uQ r ck (seen++[e.born])) (.inr (by rw[hs];exact fp)) rfl rfl ?_
  have sw:(⟨seen++[e.born]⟩:Array Nat).back?=some e.born:=by simp[Array.back?]
  simp only[uQ,sw,aa]
  refine cG (.inl hm) rfl rfl ?_
  have hfe:es.find? (fun x=>x.born==e.born)=some e:=by
   rcases es with ⟨l⟩
   have VI:e∈l:=(List.mem_filter.1 he).1
   have mb:(l.map (·.born)).Nodup:=hE.2.1
   simp only[List.find?_toArray]
   clear hm hE he hj hv hB hs hQ
   induction l with
   |nil=>cases VI
   |cons y l ih=>
    simp only[List.map_cons,List.nodup_cons,List.mem_map,not_exists,not_and] at mb
    rcases List.mem_cons.1 VI with rfl|h
    ·simp
    have:y.born≠e.born:=fun h2=>mb.1 e h h2.symm
    rw[List.find?_cons_of_neg (by simpa using this)]
    exact ih h mb.2
  simp only[bne_self_eq_false,Bool.false_eq_true,if_false,hfe,ae,aa]
  exact hQ _ _ ⟨by rw[hk,hvl],rfl⟩
 obtain⟨rfl,rfl⟩:=pG
 exact hj
end
theorem U7{kv:κ→Value}{F:List (κ×Value)}{es:Array MapEntry}(hE:tF kv F es ck){e x:MapEntry}(he:e∈cM es seen)(hx:x∈cM es seen):x=e∨x∈cM es (seen++[e.born]):=by
 by_cases h:x.born=e.born
 ·left
  have mb:=hE.2.1
  have h1:=(List.mem_filter.1 he).1
  have h2:=(List.mem_filter.1 hx).1
  generalize es.toList=l at mb h1 h2
  induction l with
  |nil=>cases h1
  |cons y l ih=>
   simp only[List.map_cons,List.nodup_cons,List.mem_map,not_exists,not_and] at mb
   rcases List.mem_cons.1 h1 with k1|k1
   ·rcases List.mem_cons.1 h2 with k2|k2
    ·rw[k1,k2]
    exact absurd (by rw[h,k1]) (mb.1 x k2)
   rcases List.mem_cons.1 h2 with k2|k2
   ·exact absurd (by rw[←h,k2]) (mb.1 e k1)
   exact ih mb.2 k1 k2
 exact .inr (abC.2 ⟨hx,h⟩)
def msV(P:Program)(n:Nat)(p:Oper)(e:Env):Option (TypeId×List Value):=match p.op with
 | .makeSlice T x y=>match ba P T with
  |some ⟨.slice E,_,_,_⟩=>match ba P E with
   |some te=>match bp n e x,bp n e y with
    |some (.int .i64 a),some (.int .i64 b)=>bif (decide (a=2)&&decide (b=2))&&(Nat.beq te.size 1&&Nat.ble (tM P E) 65536) then some (E,te.zero) else none
    |_,_=>none
   |none=>none
  |_=>none
 |_=>none
theorem jmS{X:Cx}{z:Value}(hj:∀b,J X (mZ [] (.slice (some ⟨b,0,none⟩) 2 2) [(b,.cells ⟨[z,z]⟩ E (0,0))] o))(hv:eT X.n (msV X.P X.n) o=some (E,[z]):=by kernel_rfl)(hB:dN [] o=some []:=by kernel_rfl):J X o:=by
 refine jS (Φ:=fun v L'=>∃b,v= .slice (some ⟨b,0,none⟩) 2 2∧L'=[(b,.cells ⟨[z,z]⟩ E (0,0))]) [] [] hv hB (fun p e hf=>?_) (fun v L' pG=>?_)
 ·unfold msV at hf
  split at hf<;>try (cases hf;done)
  rename_i T x y az
  split at hf<;>try (cases hf;done)
  rename_i E' _ _ _ dM
  split at hf<;>try (cases hf;done)
  rename_i te uo
  split at hf<;>try (cases hf;done)
  rename_i a b hx hy
  cases hc:((decide (a=2)&&decide (b=2))&&(Nat.beq te.size 1&&Nat.ble (tM X.P E') 65536)) with
  |false=>rw[hc] at hf;cases hf
  |true=>
   rw[hc] at hf
   simp only[cond_true,Option.some.injEq,Prod.mk.injEq] at hf
   obtain⟨rfl,hz⟩:=hf
   simp only[Bool.and_eq_true,decide_eq_true_eq,Nat.beq_eq,Nat.ble_eq] at hc
   obtain⟨⟨rfl,rfl⟩,u9,hby⟩:=hc
   obtain⟨byT,tf⟩:=av dM
   obtain⟨bE,jO⟩:=av uo
   obtain⟨i,hi,hi1,R9,hi3⟩:=jO.info
   have aoQ:bE≤65536:=by simp only[tM,hi] at hby;omega
   have axV:¬((bE:Int)*2>2^48):=by omega
   have w2:IntKind.i64.wrap 2=2:=kD 2 (by omega)
   have iM:(Pr [z] te.agg).cells=⟨[z]⟩:=by rw[←hz];exact dW jO
   have HQ:((Array.range ((2:Int).toNat*1)).map fun x=>(⟨[z]⟩:Array Value)[x % (⟨[z]⟩:Array Value).size]!)=⟨[z,z]⟩:=by apply Array.ext';simp[Nat.mod_one,List.range,List.range.loop]
   refine⟨by rw[az];simp,fun R Q E hQ=>?_⟩
   simp only[execOp,az,Instr.makeSlice,aF hx,aF hy,asInt,asIntOf,aa,a8 tf,ae,nz hi,R9,w2,axV,show ¬((2:Int) <0) by omega,show ¬((2:Int)>2) by omega,decide_false,Bool.or_self,Bool.false_eq_true,if_false]
   refine sP ?_
   simp only[aa,cu jO,u9,show ¬((2:Int).toNat*1=0) by decide,if_false,jZ jO,ae,hz,iM,HQ,jo]
   intro b hb
   exact hQ _ _ ⟨b,rfl,rfl⟩
 obtain⟨b,rfl,rfl⟩:=pG
 exact hj b
def apI(body:Code):Option JS→Option (JS×Nat)
 |some ⟨.fin .normal,e,.b c oc:: .b b (.loop r)::w,kn⟩=>match r.state with
  | .ready=>some (⟨.code body [],e,.b c oc:: .b b (.loop {r with state:= .busy})::w,kn⟩,b)
  |_=>none
 |_=>none
theorem aEI{X:Cx}{bl:Nat}{body:Code}(h:J (X.re bl ro Φ) (EW (apI body o)))(h1:Up (apI body o)=some bl:=by kernel_rfl):J (X.rd bl ro Φ body) o:=by
 unfold apI at h h1
 split at h<;>try (unfold EW at h;exact h.elim)
 rename_i e c oc b r w kn
 split at h<;>try (unfold EW at h;exact h.elim)
 rename_i bW
 unfold Up at h1
 unfold EW at h
 simp only[bW,Option.some.injEq] at h1
 subst h1
 intro bY
 have hw:=h bY
 simp only[JP,Cx.rd,IK,Dw]
 refine⟨[(c,oc)],r,den w,by rw[iH,iH];rfl,bW,?_⟩
 simp only[JP,iH] at hw
 exact hw
theorem aEE{hm:P.follows .mixedOrders=true}(own:List Sg)(kn:Cells)(hk:Knows ro kn)(h:J (XM P hm f ro R) (jD P f args own kn)):Fn (CP P) P f ⟨args⟩ ⟨ro,den own⟩ R:=by
 unfold jD at h
 split at h<;>try exact h.elim
 rename_i fn hf
 split at h<;>try exact h.elim
 rename_i c hc
 cases hl:Nat.ble args.length fn.ntmps with
 |false=>rw[hl] at h;exact h.elim
 |true=>
  rw[hl] at h
  have uR:qD P f=fn:=by simp only[qD,hf]
  have:=h hk
  simp only[JP,XM,KQ,uR] at this
  refine Me eP hf hc ?_
  have he:=kR args fn.ntmps (Nat.le_of_ble_eq_true hl)
  rw[←he] at this
  exact this
section
variable {X:Cx} {o:Option JS}
theorem aPH{uC:List Nat}(hq:QM X R uC)(v:Value)(pm hs ps:List Nat)(Y:Cells)(fA:Sub pE X.ro)(hR:R (.returned v) ⟨pE,Y⟩)(h0:dN pm o=some (mk uC):=by kernel_rfl)(h1:qZ (iv X.P X.n X.fn hs (Di pm o))=some v:=by kernel_rfl)(h2:Po (iv X.P X.n X.fn hs (Di pm o))=Pn (iv X.P X.n X.fn hs (Di pm o)):=by kernel_rfl)(h3:dN ps (Di pm o)=some Y:=by kernel_rfl)(h4:zn o=true:=by kernel_rfl):J X o:=by
 obtain⟨ex,e,w,kn,rfl,hex⟩:=tz h4
 simp only[Di,iv] at h1 h2 h3
 cases hr:Cb X.P X.n e (dE pm 0 w) kn.c hs (qD X.P X.fn).results.toList with
 |none=>simp only[hr,qZ] at h1;cases h1
 |some x=>
  rcases x with ⟨vs,q⟩
  simp only[hr,qZ,Option.some.injEq,Po,Pn] at h1 h2
  intro bY
  have sq:=tR bY hr (me h2)
  have hp:=bJ h3
  have Fs:=Qk (s0:=⟨pE,Y⟩) (R:=R) hex sq h1 (dL hp fA) hR
  have ht:bO X.P (results (qD X.P X.fn) (A X.n e X.D).tmps) ⟨X.ro,den (dE pm 0 w)⟩ (fun v s'=>∃s0,s0.le s'∧R (.returned v) s0) (fun _ _=>False):=by
   rcases hex with rfl|rfl<;>exact Fs.2
  show X.Q ex (A X.n e X.D) ⟨X.ro,den w⟩
  rw[hq.q]
  have hm:∃uC rest,(A X.n e X.D).defers=uC.map dY∧(den w).Perm (mk uC++rest)∧bO X.P (results (qD X.P X.fn) (A X.n e X.D).tmps) ⟨X.ro,rest⟩ (fun v s'=>∃s0,s0.le s'∧R (.returned v) s0) (fun _ _=>False):=⟨uC,_,hq.d,bJ h0,ht⟩
  rcases hex with rfl|rfl<;>exact hm
end
attribute [irreducible] mrV nmV enV uQ msV apI
def rnM(P:Program):Sem α→List Nat→Cells→List (Nat×Nat)→Option (α×Cells×List (Nat×Nat))
 | .pure a,_,B,q=>some (a,B,q)
 | .load m a k,h::hs,B,q=>match m,a.spot,B[h]? with
  | .plain,none,some (b,.cells c _ _)=>match c[a.off]? with
   |some v=>rnM P (k v) hs B ((a.block,b)::q)
   |none=>none
  |_,_,_=>none
 | .shape r k,h::hs,B,q=>match B[h]? with
  |some (b,o)=>rnM P (k (Obj.shapeOf o)) hs B ((r,b)::q)
  |none=>none
 | .program k,hs,B,q=>rnM P (k P) hs B q
 |_,_,_,_=>none
theorem aud:∀(m:Sem α) {hs:List Nat} {B B':Cells} {q q':List (Nat×Nat)} {v:α},rnM P m hs B q=some (v,B',q')→(∀p∈q',p.1=p.2)→
 (∀p∈q,p∈q')∧B'=B∧∀(s:St) (Q:α→St→Prop) (E:Halt→St→Prop),(∀x∈B,s.has x.1 x.2)→Q v s→bO P m s Q E:=by
 intro m
 induction m with
 |pure a=>intro hs B B' q q' v h _;simp only[rnM,Option.some.injEq,Prod.mk.injEq] at h;obtain⟨rfl,rfl,rfl⟩:=h;exact⟨fun _ h=>h,rfl,fun _ _ _ _ h=>h⟩
 |load m a k ih=>
  intro hs B B' q q' v h hq
  cases hs with
  |nil=>cases h
  |cons j hs=>
   unfold rnM at h
   split at h<;>try (cases h;done)
   rename_i b c t fz Pc hB
   split at h<;>try (cases h;done)
   rename_i u hu
   obtain⟨h1,h2,h3⟩:=ih _ h hq
   have zg:a.block=b:=hq _ (h1 _ List.mem_cons_self)
   refine⟨fun p hp=>h1 p (List.mem_cons_of_mem _ hp),h2,fun s Q E hs hQ=>⟨rfl,Pc,c,t,fz,u,?_,hu,h3 s Q E hs hQ⟩⟩
   rw[zg];exact hs _ (List.mem_of_getElem? hB)
 |shape r k ih=>
  intro hs B B' q q' v h hq
  cases hs with
  |nil=>cases h
  |cons j hs=>
   simp only[rnM] at h
   split at h<;>try (cases h;done)
   rename_i b o hB
   obtain⟨h1,h2,h3⟩:=ih _ h hq
   have zg:r=b:=hq _ (h1 _ List.mem_cons_self)
   refine⟨fun p hp=>h1 p (List.mem_cons_of_mem _ hp),h2,fun s Q E hs hQ=>⟨o,?_,h3 s Q E hs hQ⟩⟩
   rw[zg];exact hs _ (List.mem_of_getElem? hB)
 |program k ih=>
  intro hs B B' q q' v h hq
  simp only[rnM] at h
  exact ih _ h hq
 |store=>intro hs B B' q q' v h hq;cases hs<;>cases h
 |new=>intro hs B B' q q' v h hq;cases hs<;>cases h
 |freeze=>intro hs B B' q q' v h hq;cases hs<;>cases h
 |frozen=>intro hs B B' q q' v h hq;cases hs<;>cases h
 |getObj=>intro hs B B' q q' v h hq;cases hs<;>cases h
 |setObj=>intro hs B B' q q' v h hq;cases hs<;>cases h
 |choose=>intro hs B B' q q' v h hq;cases hs<;>cases h
 |sys=>intro hs B B' q q' v h hq;cases hs<;>cases h
 |mark=>intro hs B B' q q' v h hq;cases hs<;>cases h
 |halt=>intro hs B B' q q' v h hq;cases hs<;>cases h
def aeM:Op→Option (List Operand)
 | .call ⟨.builtin _,xs,_⟩=>some xs.toList
 |op=>GK op
theorem Qh{o:Oper}{xs:List Operand}(h:aeM o.op=some xs){f g:Operand→Value}(hfg:∀x∈xs,f x=g x):execOp f o=execOp g o:=by
 unfold aeM at h
 split at h
 ·rename_i b xs at_ heq
  simp only[Option.some.injEq] at h;subst h
  have:xs.map f=xs.map g:=Array.map_congr_left fun a ha=>hfg a (by simpa using ha)
  simp only[execOp,heq,resolve,this]
 exact tU h hfg
def smV(P:Program)(n:Nat)(hs:List Nat)(B:Cells)(p:Oper)(e:Env):Option (Value×List (Nat×Nat)):=match aeM p.op with
 |some xs=>match x6 n e xs with
  |some _=>match rnM P (execOp (evj n e) p) hs B [] with
   |some (.value v,_,q)=>some (v,q)
   |_=>none
  |none=>none
 |none=>none
theorem B2{γ:Type}{f:Oper→Env→Option β}{g:β→γ}:eT n (fun p e=>(f p e).map g) o=(eT n f o).map g:=by
 unfold eT
 split
 ·unfold dC
  dsimp only
  split<;>rfl
 rfl
def smA(P:Program)(n:Nat)(hs:List Nat)(B:Cells)(p:Oper)(e:Env):Option Value:=(smV P n hs B p e).map (·.1)
def smL(P:Program)(n:Nat)(hs:List Nat)(B:Cells)(p:Oper)(e:Env):Option (List Nat):=(smV P n hs B p e).map fun x=>Wn x.2
def smR(P:Program)(n:Nat)(hs:List Nat)(B:Cells)(p:Oper)(e:Env):Option (List Nat):=(smV P n hs B p e).map fun x=>Uo x.2
section
variable {X:Cx} {o:Option JS}
theorem jmo(ps hs:List Nat)(B:Cells)(v:Value)(hj:J X (mZ ps v B o))(hv:eT X.n (smA X.P X.n hs B) o=some v:=by kernel_rfl)(hq:eT X.n (smL X.P X.n hs B) o=eT X.n (smR X.P X.n hs B) o:=by kernel_rfl)(hB:dN ps o=some B:=by kernel_rfl):J X o:=by
 rw[show smA X.P X.n hs B=fun p e=>(smV X.P X.n hs B p e).map (·.1) from rfl,B2] at hv
 rw[show smL X.P X.n hs B=fun p e=>(smV X.P X.n hs B p e).map (fun x=>Wn x.2) from rfl,show smR X.P X.n hs B=fun p e=>(smV X.P X.n hs B p e).map (fun x=>Uo x.2) from rfl,B2,B2] at hq
 cases hx:eT X.n (smV X.P X.n hs B) o with
 |none=>rw[hx] at hv;cases hv
 |some x=>
  rcases x with ⟨v',q⟩
  rw[hx] at hv hq
  simp only[Option.map_some,Option.some.injEq] at hv hq
  subst hv
  refine jS (Φ:=fun u L'=>u=v'∧L'=B) ps B hx hB (fun p e hf=>?_) (fun u L' pG=>by obtain⟨rfl,rfl⟩:=pG;exact hj)
  unfold smV at hf
  split at hf<;>try (cases hf;done)
  rename_i xs az
  split at hf<;>try (cases hf;done)
  rename_i ws TQ
  split at hf<;>try (cases hf;done)
  rename_i u B' q2 bX
  simp only[Option.some.injEq,Prod.mk.injEq] at hf
  obtain⟨rfl,rfl⟩:=hf
  refine⟨fun c hc=>?_,fun R Q E hQ=>?_⟩
  ·rw[hc] at az;cases az
  rw[Qh az (Oi (f:=ev X.n e) (fun x v h=>aF h) TQ)]
  obtain⟨_,_,h3⟩:=aud _ bX (me hq)
  exact h3 _ _ _ (fun x hx=> .inr (List.mem_append_left _ hx)) (hQ _ _ ⟨rfl,rfl⟩)
theorem Ik:∀(n t:Nat) (acc:Array Value),(Extern.BytealgMakeNoZero.digits n t acc).size=acc.size+n
 |0,_,_=>rfl
 |n+1,t,acc=>by
  simp only[Extern.BytealgMakeNoZero.digits,Ik n,Array.size_push];omega
theorem jnz{ps rs:Array TypeId}{T:TypeId}{z:List Value}(ef:EF X.P f (Extern.BytealgMakeNoZero.makeNoZero ps rs))(hT:rs[0]?=some T) (tf:TF X.P T (.slice E) sz bE z ag) (hn:n≤1000)
 (hj:∀b l,n≤l.length→J X (mZ [] (.slice (some ⟨b,0,none⟩) n l.length) [(b,.cells ⟨l⟩ E (0,0))] o)) (hv:eT X.n (ajX X.n) o=some (f,[.int .i64 (n:Int)]):=by kernel_rfl) (hB:dN [] o=some []:=by kernel_rfl):J X o:=by
 obtain⟨ops,i,todo,k,e,w,kn,p,rfl,ho,hw,hc⟩:=dB hv
 obtain⟨xs,at_,az,hx⟩:=Oh hc
 intro bY
 rcases p with ⟨dst,op,ty,pos,cY,g⟩
 dsimp only at az;subst az
 refine afV X.hC ho hw ef hx ?_
 have eM:Extern.BytealgMakeNoZero.makeNoZero ps rs ⟨[Value.int .i64 (n:Int)]⟩=(do
  let some t:=rs[0]?|stuck "bytealg.MakeNoZero: no result type"
  let .slice elem ←underlying t|stuck "bytealg.MakeNoZero: slice type expected"
  if (n:Int) <0||(n:Int)>2^48 then runtimePanic (.error "makeslice: len out of range")
  let cap ←choose (.appendCap (n:Int).toNat 0 elem)
  askRoom cap
  let bytes ←choose (.extern "internal/bytealg.MakeNoZero.bytes" 0)
  let a ←newRow elem (Extern.BytealgMakeNoZero.digits cap bytes #[])
  pure (.slice (some a) (n:Int).toNat cap)):=rfl
 rw[eM]
 simp only[hT,a8 tf]
 rw[if_neg (by simp only[Bool.or_eq_true,decide_eq_true_eq];omega)]
 refine aer rfl fun q=>?_
 refine sP ?_
 show (if (Question.extern "internal/bytealg.MakeNoZero.bytes" 0).forced=true then _ else _)
 have key:∀cap bytes,n≤cap→bO X.P (newRow E (Extern.BytealgMakeNoZero.digits cap bytes #[]) >>= fun a=>pure (Value.slice (some a) ((n:Int).toNat) cap)) ⟨X.ro,den w⟩ (fun v s'=>ab X.C X.fn X.aA ops todo (KQ X k) (A X.n (upd dst v e) X.D) s') (fun _ _=>False):=by
  intro cap bytes oF
  rw[jo]
  intro b hb
  have hl:(Extern.BytealgMakeNoZero.digits cap bytes #[]).toList.length=cap:=by
   rw[Array.length_toList,Ik];simp
  have:=hj b (Extern.BytealgMakeNoZero.digits cap bytes #[]).toList (by omega)
  rw[od ho] at this
  have:=this bY
  simp only[JP,gq,hl,xJ] at this
  exact this
 split
 ·exact key _ _ (by show n≤(n:Int).toNat+_;rw[Int.toNat_natCast];exact Nat.le_add_right _ _)
 exact fun q2=>key _ _ (by show n≤(n:Int).toNat+_;rw[Int.toNat_natCast];exact Nat.le_add_right _ _)
def sdV(n:Nat)(p:Oper)(e:Env):Option (Addr×Nat×Nat):=match p.op with
 | .call ⟨.builtin .unsafeSliceData,xs,_⟩=>match x6 n e xs.toList with
  |some [.slice (some a) l c]=>some (a,l,c)
  |_=>none
 |_=>none
theorem jsd{a:Addr}{l c:Nat}(h:c≠0)(hj:J X (mZ [] (.pointer (some a)) [] o))(hv:eT X.n (sdV X.n) o=some (a,l,c):=by kernel_rfl)(hB:dN [] o=some []:=by kernel_rfl):J X o:=by
 refine jS (Φ:=fun u L'=>u= .pointer (some a)∧L'=[]) [] [] hv hB (fun p e hf=>?_) (fun u L' pG=>by obtain⟨rfl,rfl⟩:=pG;exact hj)
 unfold sdV at hf
 split at hf<;>try (cases hf;done)
 rename_i xs at_ az
 split at hf<;>try (cases hf;done)
 rename_i a' l' c' hx
 simp only[Option.some.injEq,Prod.mk.injEq] at hf
 obtain⟨rfl,rfl,rfl⟩:=hf
 refine⟨by rw[az];simp,fun R Q E hQ=>?_⟩
 have e1:Builtin.unsafeSliceData_ at_ p.type ⟨[.slice (some a') l' c']⟩=pure (.pointer (some a')):=by
  show (if c'≠0 then _ else _)=_
  rw[if_pos h]
 simp only[execOp,az,resolve,sB (show vx X.n e xs=_ from hx),ae,invoke,builtin,e1]
 exact hQ _ _ ⟨rfl,rfl⟩
def usV(P:Program)(n:Nat)(p:Oper)(e:Env):Option (Nat×TypeId):=match p.op with
 | .call ⟨.builtin .unsafeString,xs,at_⟩=>match at_[0]? with
  |some pt=>match ba P pt with
   |some ⟨.pointer E,_,_,_⟩=>bif Nat.beq (P.cellsOf E) 1 then (match x6 n e xs.toList with
    |some [.pointer (some ⟨b,0,none⟩),.int .i64 1]=>some (b,E)
    |_=>none) else none
   |_=>none
  |none=>none
 |_=>none
theorem jus(ps:List Nat)(x:Int)(l:List Value)(hj:∀L',J X (mZ ps (.string ⟨#[x.toNat.toUInt8]⟩) L' o))(hv:eT X.n (usV X.P X.n) o=some (b,E):=by kernel_rfl)(hB:dN ps o=some [(b,.cells ⟨.int .u8 x::l⟩ E (0,0))]:=by kernel_rfl):J X o:=by
 refine jS (Φ:=fun u L'=>u= .string ⟨#[x.toNat.toUInt8]⟩) ps _ hv hB (fun p e hf=>?_) (fun u L' pG=>by subst pG;exact hj L')
 unfold usV at hf
 split at hf<;>try (cases hf;done)
 rename_i xs at_ az
 split at hf<;>try (cases hf;done)
 rename_i pt hpt
 split at hf<;>try (cases hf;done)
 rename_i E' _ _ _ dM
 cases hc:Nat.beq (X.P.cellsOf E') 1 with
 |false=>rw[hc] at hf;cases hf
 |true=>
  rw[hc] at hf
  simp only[cond_true] at hf
  split at hf<;>try (cases hf;done)
  rename_i b' hx
  simp only[Option.some.injEq,Prod.mk.injEq] at hf
  obtain⟨rfl,rfl⟩:=hf
  have hc:=Nat.eq_of_beq_eq_true hc
  obtain⟨bE,tf⟩:=av dM
  refine⟨by rw[az];simp,fun R Q Er hQ=>?_⟩
  have e1:Builtin.unsafeString_ at_ p.type ⟨[.pointer (some ⟨b',0,none⟩),.int .i64 1]⟩=(do
   let n ←asInt (.int .i64 1)
   let some pt:=at_[0]?|stuck "unsafe.String: no argument types"
   if n <0 then runtimePanic (.error "unsafe.String: len out of range")
   if n>IntKind.i64.max then unsupported (.unsafePointer "String: a length above the largest int")
   if n=0 then pure (.string .empty)
   else if ←variablesAt ⟨b',0,none⟩ (←elemOf pt) n.toNat then do
    let s ←loadBytes ⟨b',0,none⟩ .empty n.toNat
    freeze ⟨b',0,none⟩ n.toNat
    pure (.string s)
   else unsupported (.unsafePointer "String: not so many bytes at ptr")):=rfl
  simp only[execOp,az,resolve,sB (show vx X.n e xs=_ from hx),ae,invoke,builtin,e1]
  simp only[asInt,asIntOf,aa,ae,hpt,show ¬((1:Int) <0) by omega,show ¬((1:Int)>IntKind.i64.max) by decide,show ¬((1:Int)=0) by omega,if_false,elemOf,a8 tf,variablesAt,eN]
  have hs:(⟨X.ro,[(b',Obj.cells ⟨Value.int .u8 x::l⟩ E' (0,0))]++R⟩:St).rw=[]++(b',Obj.cells ⟨Value.int .u8 x::l⟩ E' (0,0))::R:=rfl
  have hm:(⟨X.ro,[(b',Obj.cells ⟨Value.int .u8 x::l⟩ E' (0,0))]++R⟩:St).has b' (.cells ⟨Value.int .u8 x::l⟩ E' (0,0)):= .inr (by rw[hs];exact fp)
  refine⟨_,hm,?_⟩
  have aF3:=Go.Lib.liesAt_bytes (P:=X.P) hc ((Value.int .u8 x::l).length / X.P.cellsOf E') 1 (by rw[hc];simp)
  have pb:∀ {α β:Type} (a:α) (f:α→Sem β),(Sem.pure a).bind f=f a:=fun _ _=>rfl
  simp only[Obj.shapeOf,List.size_toArray,aa,ae,pb]
  rw[show (1:Int).toNat=1 from rfl,aF3]
  simp only[ae,aa,if_true,loadBytes]
  refine⟨rfl,rfl,_,_,_,.int .u8 x,hm,rfl,?_⟩
  simp only[aa,ae]
  refine(if_neg (by omega:¬(1:Nat)=0)).mpr ?_
  refine⟨[],_,R,hs,?_⟩
  exact hQ (.string ⟨#[x.toNat.toUInt8]⟩) [(b',_)] rfl
def pnV(P:Program)(n:Nat)(p:Oper)(e:Env):Option (Nat×Nat):=match p.op with
 | .binOp .neq T x y _=>match ba P T with
  |some ⟨.pointer E,_,_,_⟩=>match ba P E with
   |some te=>bif Nat.blt 0 te.size then (match bp n e x with
    |some (.pointer (some ⟨b,0,none⟩))=>match bp n e y with
     |some (.pointer (some ⟨c,0,none⟩))=>some (b,c)
     |_=>none
    |_=>none) else none
   |none=>none
  |_=>none
 |_=>none
theorem apo{dep:Nat}{t:TypeId}{sz2 Ap:Nat}{z z2:List Value}{ag2:Bool}(tf:TF P t (.pointer E) sz bE z ag){d:TypeDesc}(p9:TF P E d sz2 Ap z2 ag2)(hs:sz2≠0)(a:Addr):EqD P (dep+1) t (.pointer (some a)) (.pointer (some a)) true:=by
 intro α s kk Q Er
 simp only[Op.equalIn,aa,a8 tf,cu p9,hs,ne_eq,not_false_eq_true,if_true,sameAddr,beq_self_eq_true,ae]
theorem jpn(hj:J X (mZ [] (.bool false) [] o))(hv:eT X.n (pnV X.P X.n) o=some (b,b):=by kernel_rfl)(hB:dN [] o=some []:=by kernel_rfl):J X o:=by
 refine jS (Φ:=fun u L'=>u= .bool false∧L'=[]) [] [] hv hB (fun p e hf=>?_) (fun u L' pG=>by obtain⟨rfl,rfl⟩:=pG;exact hj)
 unfold pnV at hf
 split at hf<;>try (cases hf;done)
 rename_i T x y T2 az
 split at hf<;>try (cases hf;done)
 rename_i E' _ _ _ dM
 split at hf<;>try (cases hf;done)
 rename_i te uo
 cases hc:Nat.blt 0 te.size with
 |false=>rw[hc] at hf;cases hf
 |true=>
  rw[hc] at hf
  simp only[cond_true] at hf
  split at hf<;>try (cases hf;done)
  rename_i b' hx
  split at hf<;>try (cases hf;done)
  rename_i c' hy
  simp only[Option.some.injEq,Prod.mk.injEq] at hf
  obtain⟨rfl,rfl⟩:=hf
  obtain⟨bE,tf⟩:=av dM
  obtain⟨Ap,p9⟩:=av uo
  have hc:0 <te.size:=by rwa[Nat.blt_eq] at hc
  refine⟨by rw[az];simp,fun R Q Er hQ=>?_⟩
  have hs:te.size≠0:=by omega
  simp only[execOp,az,aF hx,aF hy,eqGuard,aa,binOp,Op.equal,Op.maxDepth]
  simp only[Bool.not_true,Bool.false_eq_true,if_false,ae,aa]
  rw[apo (dep:=9999) tf p9 hs]
  exact hQ _ _ ⟨rfl,rfl⟩
end
attribute [irreducible] smV smA smL smR sdV usV pnV
section
variable {X:Cx} {o:Option JS}
def s0V(P:Program)(n:Nat)(p:Oper)(e:Env):Option (Addr×Nat×Nat):=match p.op with
 | .slice T x none (some y) none=>match ba P T with
  |some ⟨.slice E,_,_,_⟩=>match ba P E with
   |some _=>match bp n e x with
    |some (.slice (some ⟨b,0,none⟩) l c)=>match bp n e y with
     |some (.int .i64 0)=>some (⟨b,0,none⟩,l,c)
     |_=>none
    |_=>none
   |none=>none
  |_=>none
 |_=>none
theorem js0{a:Addr}{l c:Nat}(hj:J X (jR (.slice (some a) 0 c) o))(hv:dC X.n (s0V X.P X.n) o=some (a,l,c):=by kernel_rfl):J X o:=by
 refine jG hv (fun s p e ho hh hf=>?_) hj
 unfold s0V at hf
 split at hf<;>try (cases hf;done)
 rename_i T x y az
 split at hf<;>try (cases hf;done)
 rename_i E _ _ _ dM
 split at hf<;>try (cases hf;done)
 rename_i te uo
 split at hf<;>try (cases hf;done)
 rename_i b l' c' hx
 split at hf<;>try (cases hf;done)
 rename_i hy
 simp only[Option.some.injEq,Prod.mk.injEq] at hf
 obtain⟨rfl,rfl,rfl⟩:=hf
 obtain⟨bE,tf⟩:=av dM
 obtain⟨Ap,p9⟩:=av uo
 have key:∀s,Yields X.P X.n e p s (.slice (some ⟨b,0,none⟩) 0 c'):=by
  intro s s' mT f hf K E hK
  have hb:(0:Int)≤0∧(0:Int)≤(c':Int):=by omega
  simp only[execOp,az,Option.map_some,Option.map_none,Instr.sliceAt,Instr.slice,hf _ _ hx,hf _ _ hy,aa,a8 tf,Instr.sliceBounds,Instr.sliceBound,asIntOf,ae,hb,and_self,if_true,cu p9]
  have he:(if c'=0 then (some ⟨b,0,none⟩:Option Addr) else some ((⟨b,0,none⟩:Addr).add (0*te.size)))=some ⟨b,0,none⟩:=by
   split
   ·rfl
   simp[dK]
  rw[show (0:Int).toNat=0 from rfl,he]
  exact hK
 exact⟨by rw[az];rfl,fun _=>key _,fun _=>key⟩
end
attribute [irreducible] s0V
section
variable {X:Cx} {o:Option JS}
def cpV(P:Program)(n:Nat)(p:Oper)(e:Env):Option Nat:=match p.op with
 | .call ⟨.builtin .cap,⟨[x]⟩,⟨[T]⟩⟩=>match ba P T with
  |some ⟨.slice _,_,_,_⟩=>match bp n e x with
   |some (.slice _ _ c)=>some c
   |_=>none
  |_=>none
 |_=>none
theorem jcp{c:Nat}(hj:J X (jR (.int .i64 (c:Int)) o))(hv:dC X.n (cpV X.P X.n) o=some c:=by kernel_rfl):J X o:=by
 refine jG hv (fun s p e ho hh hf=>?_) hj
 unfold cpV at hf
 split at hf<;>try (cases hf;done)
 rename_i x T az
 split at hf<;>try (cases hf;done)
 rename_i dM
 split at hf<;>try (cases hf;done)
 rename_i a l c' hx
 simp only[Option.some.injEq] at hf
 subst hf
 obtain⟨bE,tf⟩:=av dM
 have key:∀s,Yields X.P X.n e p s (.int .i64 (c':Int)):=by
  intro s s' mT f hf K E hK
  simp only[execOp,az,resolve,invoke,builtin,List.map_toArray,List.map_cons,List.map_nil,hf _ _ hx,ae,aa,Builtin.cap_,List.getElem?_toArray,List.getElem?_cons_zero,a8 tf]
  exact hK
 exact⟨by rw[az];rfl,fun _=>key _,fun _=>key⟩
end
attribute [irreducible] cpV
def tkO(is:List Nat)(o:Option JS):List Sg:=(rh is o).getD []
theorem aPP{X:Cx}{ι:Type}(is:List Nat)(p:List Nat)(Ks:List (Act→St→Prop))(ef:ι→Env)(wf:ι→List Sg)(Inv:ι→Prop)(μ:ι→Nat)(i0:ι)(h0:Inv i0)(ps:List Nat)(hb:∀i,Inv i→∀K,xd X K ef (fun i=>wf i++tkO is o) Inv μ (μ i)→∀rest,J X (stW X.P X.fn p (Ks++[K]) (ef i++rest) (wf i++tkO is o)))
 (h1:rq (ni (ef i0)) o=some (ef i0):=by kernel_rfl)(hd:∀i,lkE (ni (ef i)) (ef i)=some (ef i):=by intro _;kernel_rfl)(h2:rh ps o=some (wf i0++tkO is o):=by kernel_rfl)(hp:∀K,J8 X.P X.fn p (Ks++[K])=lpB K (yp o):=by intro _;kernel_rfl):J X o:=
 dw p Ks ef (fun i=>wf i++tkO is o) Inv μ i0 h0 ps hb h1 hd h2 hp
attribute [irreducible] tkO
abbrev RCG(ro:Nat→Option Obj)(Φ:Value→(Nat→Option Obj)→Cells→Prop)(fr:Cells):Ending→St→Prop:=fun en s'=>∃v aD Y,en= .returned v∧Sub ro aD∧(⟨aD,Y++fr⟩:St).le s'∧Φ v aD Y
def azx(P:Program)(f:FuncId)(args:List Value)(ro:Nat→Option Obj)(own:Cells)(Φ:Value→(Nat→Option Obj)→Cells→Prop):Prop:=
 ∀fr,Fn (C0 P) P f ⟨args⟩ ⟨ro,own++fr⟩ (RCG ro Φ fr)
theorem aEF(hm:P.follows .mixedOrders=true){Φ:Value→(Nat→Option Obj)→Cells→Prop}{L:Cells}(own:List Sg)(kn:Cells)(hk:Knows ro kn)(h:∀fr,J (XC P hm f ro (RCG ro Φ fr)) (jD P f args (own++[.l fr]) kn))(hL:den own=L:=by rfl):azx P f args ro L Φ:=by
 subst hL
 intro fr
 have h:=h fr
 unfold jD at h
 split at h<;>try exact h.elim
 rename_i fn hf
 split at h<;>try exact h.elim
 rename_i c hc
 cases hl:Nat.ble args.length fn.ntmps with
 |false=>rw[hl] at h;exact h.elim
 |true=>
  rw[hl] at h
  have uR:qD P f=fn:=by simp only[qD,hf]
  have:=h hk
  simp only[JP,XC,KQ,uR] at this
  have hd:den (own++[.l fr])=den own++fr:=by rw[lJ];rfl
  rw[hd] at this
  exact Mc xN hf hc hl this
section
variable {X:Cx} {o:Option JS}
theorem aob{vs:List Value}{own:Cells}{Φ:Value→(Nat→Option Obj)→Cells→Prop}(ps:List Nat)(hC:∀main T,X.C main T→C0 X.P main T)(hf:azx X.P f vs X.ro own Φ)(hj:∀v aD Y,Sub X.ro aD→Φ v aD Y→J (X.at aD) (mZ ps v Y o))(h1:eT X.n (yw X.P X.n) o=some (f,vs):=by kernel_rfl)(h2:dN ps o=some own:=by kernel_rfl):J X o:=by
 obtain⟨ops,i,todo,k,e,w,kn,p,rfl,ho,hw,hc⟩:=dB h1
 obtain⟨ff,x,xs,at_,fi,ca,ws,az,hx,si,rfl⟩:=qI hc
 intro bY
 rcases p with ⟨dst,op,ty,pos,cY,g⟩
 dsimp only at az;subst az
 have hp:=bJ h2
 have uR:Fn X.C X.P f ⟨fi++ws++ca⟩ ⟨X.ro,den w⟩ (RCG X.ro Φ (den (dE ps 0 w))):=fun main T hT c cs k1 k2=>
  (X.hC main T hT).mono _ ⟨X.ro,own++den (dE ps 0 w)⟩ _ (dL (J:=[]) (by rw[List.append_nil];exact hp) (Sub.refl _)) (Fn.weaken hC (hf _) main T hT c cs k1 k2)
 refine uf (fi:=⟨fi⟩) (ca:=⟨ca⟩) (ws:=fi++ws++ca) X.hC ho hw hx ff si (Tj fi ws ca) uR (fun v' s' hr=>?_) (fun ch s' hr=>by obtain⟨_,_,_,e,_⟩:=hr;cases e) (fun s' hr=>by obtain⟨_,_,_,e,_⟩:=hr;cases e)
 obtain⟨v,aD,Y,hv,hs,hle,pG⟩:=hr
 cases hv
 have:=hj _ aD Y hs pG
 rw[od ho] at this
 have:=this (bY.up hs)
 simp only[JP,gq,IW] at this
 exact this.more X.hC hle
theorem avX(hq:QR X (RC pE fr Φ))(v:Value)(hs ps:List Nat)(Y:Cells)(fA:Sub pE X.ro)(hR:Φ v Y)(h1:qZ (iv X.P X.n X.fn hs o)=some v:=by kernel_rfl)(h2:Po (iv X.P X.n X.fn hs o)=Pn (iv X.P X.n X.fn hs o):=by kernel_rfl)(h3:dN ps o=some (Y++fr):=by kernel_rfl)(h4:zn o=true:=by kernel_rfl):J X o:=
 aK hq v hs ps (Y++fr) fA ⟨v,Y,rfl,St.le_refl _,hR⟩ h1 h2 h3 h4
theorem aEG(hq:QR X (RC pE fr Φ))(v:Value)(ps:List Nat)(A B:Cells)(fA:Sub pE X.ro)(hR:Φ v (A++B))(h1:qZ (iv X.P X.n X.fn [] o)=some v:=by kernel_rfl)(h2:Po (iv X.P X.n X.fn [] o)=Pn (iv X.P X.n X.fn [] o):=by kernel_rfl)(h3:dN ps o=some (A++(B++fr)):=by kernel_rfl)(h4:zn o=true:=by kernel_rfl):J X o:=
 aK hq v [] ps ((A++B)++fr) fA ⟨v,A++B,rfl,St.le_refl _,hR⟩ h1 h2 (by rw[h3,List.append_assoc]) h4
theorem aPI{Φ:Value→(Nat→Option Obj)→Cells→Prop}(hq:QR X (RCG pE Φ fr))(v:Value)(ps:List Nat)(Y:Cells)(fA:Sub pE X.ro)(hR:Φ v X.ro Y)(h1:qZ (iv X.P X.n X.fn [] o)=some v:=by kernel_rfl)(h2:Po (iv X.P X.n X.fn [] o)=Pn (iv X.P X.n X.fn [] o):=by kernel_rfl)(h3:dN ps o=some (Y++fr):=by kernel_rfl)(h4:zn o=true:=by kernel_rfl):J X o:=
 aK hq v [] ps (Y++fr) (Sub.refl _) ⟨v,X.ro,Y,rfl,fA,St.le_refl _,hR⟩ h1 h2 h3 h4
end
theorem Ux{fn:Func}{c:Code}{s:St}{os:Os}{out:Array (Nat×ByteArray)}{Post:Value→World→Prop}(hf:P.funcs[f]?=some fn) (hb:fn.body=some c) (hl:Nat.ble args.length fn.ntmps=true) (hi:P.inits.idxOf? f=none)
 (Sm:∀v s0 w,R (.returned v) s0→aR s0 w→w.os=os→w.output=out→Post v w) (CW:∀ch s,¬R (.panicked ch) s)
 (h:Wp (C0 P) f none c (rG P fn R) (A fn.ntmps (fM 0 args) []) s):T0 P os out Post (G (Frame.enter P f ⟨args⟩ .normal) []) s:=by
 have hT:C0 P true (T0 P os out Post):=⟨rfl,os,out,Post,rfl⟩
 have iM:=sQ P os out Post
 let b:Frame:={(default:Frame) with fn:=f,kind:= .normal,roundOf:=none}
 have gY:Frame.enter P f ⟨args⟩ .normal=aL b (A fn.ntmps (fM 0 args) []) [.code c]:=by
  rw[←kR args fn.ntmps (Nat.le_of_ble_eq_true hl)]
  simp[Frame.enter,aL,hf,hb,b]
 rw[gY]
 refine h true _ hT b [] [] rfl (by simp[b]) rfl fun e a' s' q=>?_
 have last:∀(todo:List Item),a'.defers=[]→bO P (results fn a'.tmps) s' (fun v s'=>∃s0,s0.le s'∧R (.returned v) s0) (fun _ _=>False)→T0 P os out Post (G {aL b a' todo with mode:= .returning} []) s':=by
  intro todo hd hr
  refine aaF rfl fun w pJ tJ EO=>?_
  obtain⟨r,es,bX,hl⟩:=gG _ _ _ _ w #[] hr pJ
  rw[Array.empty_append] at bX
  cases r with
  |ok v w'=>
   obtain⟨s2,ht,s0,hle,hu⟩:=hl
   refine⟨v,w',seen P f es,s2,?_,Sm v s0 w' hu (aR.of_le hle ht.jL) (ht.os.trans tJ) (ht.output.trans EO),ht.sub (iC _ _ _)⟩
   simp only[aL,b,G,stepG,unwind,hf,hd,bX,doReturn,hi,GStep.after,Array.append_empty,Bool.not_true,Bool.false_eq_true,if_false]
  |halt _ _=>obtain⟨_,_,hu⟩:=hl;exact hu.elim
 cases e with
 |normal=>exact iM.go rfl rfl (g':=G {aL b a' [] with mode:= .returning} []) (fun w=>by simp[G,stepG,stepG.exec,aL,b]) (last _ q.1 q.2)
 |ret=>exact fun todo=>iM.go rfl rfl (g':=G {aL b a' (.code .ret::todo) with mode:= .returning} []) (fun w=>by simp[G,stepG,stepG.exec,aL,b]) (last _ q.1 q.2)
 |panic ch=>exact(CW _ _ q.2).elim
 |exit id=>exact q.elim
 |goto l=>exact q.elim
 |outgrown=>exact q.elim
def asK(P:Program)(f:FuncId)(args:List Value)(ro:Nat→Option Obj)(Φ:Value→Cells→Prop):Prop:=
 ∀os out (Post:Value→World→Prop),(∀v Y w,Φ v Y→aR ⟨ro,Y⟩ w→w.os=os→w.output=out→Post v w)→T0 P os out Post (G (Frame.enter P f ⟨args⟩ .normal) []) ⟨ro,[]⟩
theorem aEC(hm:P.follows .mixedOrders=true)(hi:P.inits.idxOf? f=none)(kn:Cells)(hk:Knows ro kn)(h:∀fr,J (XC P hm f ro (RC ro fr Φ)) (jD P f args [.l fr] kn)):asK P f args ro Φ:=by
 intro os out Post Sm
 have h:=h []
 unfold jD at h
 split at h<;>try exact h.elim
 rename_i fn hf
 split at h<;>try exact h.elim
 rename_i c hc
 cases hl:Nat.ble args.length fn.ntmps with
 |false=>rw[hl] at h;exact h.elim
 |true=>
  rw[hl] at h
  have uR:qD P f=fn:=by simp only[qD,hf]
  have:=h hk
  simp only[JP,XC,KQ,uR] at this
  refine Ux hf hc hl hi (fun v s0 w hr pJ tJ EO=>?_) (fun ch s hr=>?_) this
  ·obtain⟨v',Y,e,hle,pG⟩:=hr
   cases e
   refine Sm _ Y w pG ?_ tJ EO
   have:=aR.of_le hle pJ
   rwa[List.append_nil] at this
  obtain⟨v',Y,e,_⟩:=hr;cases e
open Go.Proofs
theorem ar:Tryz.prog.follows .mixedOrders=true:=by kernel_rfl
theorem zB:(∀a b:Bool,((a&&b)=true)=(a=true∧b=true))∧(∀a b:Bool,((a||b)=true)=(a=true∨b=true))∧(∀a b:Bool,((a&&b)=false)=(a=false∨b=false))∧(∀a b:Bool,((a||b)=false)=(a=false∧b=false))∧(∀b:Bool,((!b)=true)=(b=false))∧(∀b:Bool,((!b)=false)=(b=true))∧(∀(p:Prop) [Decidable p],(decide p=true)=p)∧(∀(p:Prop) [Decidable p],(decide p=false)=¬p)∧((¬True)=False)∧(∀p:Prop,(p∨False)=p)∧(∀p:Prop,(False∨p)=p):=
 ⟨Bool.and_eq_true,Bool.or_eq_true,by simp,by simp,by simp,by simp,by simp,by simp,by simp,by simp,by simp⟩
@[reducible] noncomputable def zT:Program:=Tryz.prog
abbrev zS:Value:= .slice none 0 0
abbrev zP(b:Nat):Value:= .pointer (some ⟨b,0,none⟩)
abbrev zI(n:Int):Value:= .int .i64 n
abbrev zU(n:Int):Value:= .int .u64 n
abbrev zO:List Value:=[zS,zS,zS,zS,zS,zS,zS,zS,zI 0,zI 0,zI 0,zS]
theorem zG(l:List α)(k:Nat)(h:k <l.length:=by omega):∃x,l[k]?=some x:=⟨_,List.getElem?_eq_getElem h⟩
theorem zJ{X:Cx}(t:Nat)(p:Prop)[Decidable p](h1:p→J X (Qg t (.bool true) o))(h2:¬p→J X (Qg t (.bool false) o))(hv:Ko t o=some (.bool (decide p)):=by kernel_rfl):J X o:=
 js t (decide p) (fun h=>h1 (of_decide_eq_true h)) (fun h=>h2 (of_decide_eq_false h)) hv
theorem zD{X:Cx}(k:Nat)(h:J X (res (adv X.P X.n k [] o)))(he:lhs (adv X.P X.n k [] o)=rhs (adv X.P X.n k [] o):=by kernel_rfl):J X o:=jd k [] h he
theorem zL{l:List α}{a:α}(h:l[i]?=some a):a∈l:=List.mem_of_getElem? h
theorem zR{hm:P.follows .mixedOrders=true}(v:Value)(hs ps:List Nat)(Y:Cells)(hR:Φ v Y)(h1:qZ (iv P (qD P f).ntmps f hs o)=some v:=by kernel_rfl)(h2:Po (iv P (qD P f).ntmps f hs o)=Pn (iv P (qD P f).ntmps f hs o):=by kernel_rfl)(h3:dN ps o=some Y:=by kernel_rfl)(h4:zn o=true:=by kernel_rfl):J (X0 P hm f ro (RX ro Φ)) o:=
 aK q0 v hs ps Y (Sub.refl _) ⟨_,_,rfl,rfl,hR⟩ h1 h2 h3 h4
theorem zX{hm:P.follows .mixedOrders=true}(v:Value)(hR:Φ v [])(h1:qZ (iv P (qD P f).ntmps f [] o)=some v:=by kernel_rfl)(h2:Po (iv P (qD P f).ntmps f [] o)=Pn (iv P (qD P f).ntmps f [] o):=by kernel_rfl)(h3:dN [] o=some []:=by kernel_rfl)(h4:zn o=true:=by kernel_rfl):J (X0 P hm f ro (RX ro Φ)) o:=
 zR v [] [] [] hR h1 h2 h3 h4
theorem zE(h:J (X0 Tryz.prog ar f ro (RX ro Φ)) (jD Tryz.prog f args [] [])):dG Tryz.prog f args ro [] Φ:=bA ar [] [] aW h
theorem zC{L:Cells}(own:List Sg)(h:J (X0 Tryz.prog ar f ro (RX ro Φ)) (jD Tryz.prog f args own []))(hL:den own=L:=by rfl):dG Tryz.prog f args ro L Φ:=bA ar own [] aW h hL
@[reducible] def zN(a k:Nat):List Nat:=List.range' a k
theorem zM:(∀l m:List α,(l++m).length=l.length+m.length)∧(∀(a:α) (l:List α),(a::l).length=l.length+1)∧([]:List α).length=0:=⟨fun _ _=>List.length_append,fun _ _=>rfl,rfl⟩
theorem zK{X:Cx}{m:Nat}{e:Env}{o':Option JS}(h:∀o',tA 0 [] o'=tA m [] o→rq (ni e) o'=some e→J X o')(h1:tA 0 [] o'=tA m [] o:=by kernel_rfl)(h2:rq (ni e) o'=some e:=by kernel_rfl):J X o':=h o' h1 h2
def iI(n lo hi:Int):Bool:=decide (lo≤n)&&decide (n≤hi)
theorem e9{n:Int}:du zT 81 [zI n,zI lo,zI hi] ro (.bool (iI n lo hi)):=by
 refine zE<|zD 10<|jj 4 [(6,.bool false),(14,.bool ((decide (lo≤n))&&(decide (n≤hi))))] (fun gI=>?_) (fun hj=>?_)
 rotate_left
 refine js 10 (decide (lo≤n)) (fun h1=>?_) (fun h1=>?_)
 ·
  have fq:=h1
  replace fq:=of_decide_eq_true fq
  refine zD 4<|jw 14 (.bool ((decide (lo≤n))&&(decide (n≤hi)))) (w:= .bool (decide (n≤hi))) (by rw[h1]<;>rfl) ?_
  exact zK hj
 ·
  have fq:=h1
  replace fq:=of_decide_eq_false fq
  refine zD 4<|jw 14 (.bool ((decide (lo≤n))&&(decide (n≤hi)))) (w:= .bool false) (by rw[h1]<;>rfl) ?_
  exact zK hj
 refine zD 3<|zX (.bool ((decide (lo≤n))&&(decide (n≤hi)))) ⟨rfl,rfl⟩
theorem jb{n:Int}:du zT 146 [zI n,zI lo,zI hi] ro (.bool (iI n lo hi)):=by
 refine zE<|zD 10<|jj 4 [(6,.bool false),(14,.bool ((decide (lo≤n))&&(decide (n≤hi))))] (fun gI=>?_) (fun hj=>?_)
 rotate_left
 refine js 10 (decide (lo≤n)) (fun h1=>?_) (fun h1=>?_)
 ·
  have fq:=h1
  replace fq:=of_decide_eq_true fq
  refine zD 4<|jw 14 (.bool ((decide (lo≤n))&&(decide (n≤hi)))) (w:= .bool (decide (n≤hi))) (by rw[h1]<;>rfl) ?_
  exact zK hj
 ·
  have fq:=h1
  replace fq:=of_decide_eq_false fq
  refine zD 4<|jw 14 (.bool ((decide (lo≤n))&&(decide (n≤hi)))) (w:= .bool false) (by rw[h1]<;>rfl) ?_
  exact zK hj
 refine zD 3<|zX (.bool ((decide (lo≤n))&&(decide (n≤hi)))) ⟨rfl,rfl⟩
def bQ(p:α→Bool):List α→Nat→Int
 | [],_=> -1
 |x::l,k=>bif p x then k else bQ p l (k+1)
theorem eE{l:List α}{x:α}(h:l[k]?=some x):l.drop k=x::l.drop (k+1):=by
 obtain⟨h1,h2⟩:=List.getElem?_eq_some_iff.1 h
 rw[List.drop_eq_getElem_cons h1,h2]
theorem eA{l:List α}(h:¬k <l.length):l.drop k=[]:=List.drop_eq_nil_of_le (by omega)
theorem jK{p:α→Bool}{l:List α}{x:α}(h:l[k]?=some x):bQ p (l.drop k) k=bif p x then (k:Int) else bQ p (l.drop (k+1)) (k+1):=by rw[eE h];rfl
theorem qE{p:α→Bool}{l:List α}(h:¬k <l.length):bQ p (l.drop k) k= -1:=by rw[eA h];rfl
abbrev cy(x:Int):List Value:=[zI x]
theorem agY{v:Value}{n:Int}(hl:bB ro v 1 cy xs)(hn:xs.length≤1000000):du zT 48 [v,zI n] ro (zI (bQ (fun y=>decide (y=n)) xs 0)):=by
 obtain⟨fy,rX,rV,eO,rfl,tT,lN,mC⟩:=hl
 refine zE<|zD 10<|dw [1,0,1,0,0] [] (fun(zz:Nat)=>[(0,.slice fy xs.length eO),(1,zI n),(5,zI (zz:Int))]) (fun zz=>[]) (fun zz=>zz≤xs.length∧bQ (fun y=>decide (y=n)) xs 0=bQ (fun y=>decide (y=n)) (xs.drop zz) zz) (fun zz=>xs.length-zz) 0 ⟨by omega,rfl⟩ [] ?_
 rintro k hI K1 bG rest
 refine zD 8<|zJ 9 ((k:Int) <(xs.length:Int)) (fun h1=>?_) fun h1=>?_
 ·
  refine zD 8 ?_
  obtain⟨fI,eH⟩:=zG xs k
  refine gX eO 1 lN eH<|jl 0 (mC _ _ eH)<|zD 3<|zJ 17 (fI=n) (fun h2=>?_) fun h2=>?_
  ·
   refine zD 7<|zX (zI (k:Int)) ⟨by rw[hI.2,jK eH];simp[*],rfl⟩
  refine zD 4<|ja ((k:Int)+1) (by omega)<|zD 2<|bF bG (k+1) ⟨by omega,by rw[hI.2,jK eH];simp[*]⟩ (by omega) [] (Sub.refl _)
 refine zD 7<|zX (zI (-1)) ⟨by rw[hI.2,qE (by omega)],rfl⟩
def cd(n:Nat):List Int:=(List.range n).map fun(i:Nat)=>(i:Int)
theorem q8(n:Nat):cd (n+1)=cd n++[(n:Int)]:=by simp[cd,List.range_succ]
theorem gh(n:Nat):(cd n).length=n:=by simp[cd]
def bK(v:Value)(xs:List Int)(d:Nat)(X:Cells):Prop:=∃(k:Nat) (cN:Int),k≤xs.length∧X=[(d,.cells ⟨[v,zI k,zU cN]⟩ 105 (0,0))]
def Dn(ro:Nat→Option Obj)(v:Value)(xs:List Int):Prop:=bB ro v 1 cy xs∧xs.length≤4611686018427387904
theorem Dn.up{v:Value}(h:Dn ro v xs)(hs:Sub ro aD):Dn aD v xs:=⟨h.1.up hs,h.2⟩
theorem toNonzero{n:Int}(h0:¬n <1)(h1:n≤1000000):IntKind.u64.wrap (n+1)≠0:=by
 rw[sL .u64 rfl _ (by omega) (by simp[IntKind.bits];omega)];omega
theorem toRange{n w:Int}(h0:¬n <1)(h1:n≤1000000)(hw:0≤w):0≤IntKind.i64.wrap (Int.tmod (aT .u64 w 16) (IntKind.u64.wrap (n+1)))∧IntKind.i64.wrap (Int.tmod (aT .u64 w 16) (IntKind.u64.wrap (n+1)))≤n:=by
 have e:IntKind.u64.wrap (n+1)=n+1:=sL .u64 rfl _ (by omega) (by simp[IntKind.bits];omega)
 rw[e]
 have h2:0≤aT .u64 w 16:=Int.fdiv_nonneg hw (by decide)
 have h3:=Int.tmod_nonneg (n+1) h2
 have h4:=Int.tmod_lt_of_pos (aT .u64 w 16) (show 0 <n+1 by omega)
 rw[kD _ (by omega)]
 omega
theorem aUU(hN:Dn ro vd xs)(hD:bK vd xs d X):dG zT 74 [zP d] ro X (fun r Y=>∃w:Int,r= zU w∧0≤w∧w <18446744073709551616∧bK vd xs d Y):=by
 obtain⟨k,cN,hk,rfl⟩:=hD
 obtain⟨hl,hn⟩:=hN
 obtain⟨fy,rX,rV,eO,rfl,tT,lN,mC⟩:=hl
 refine zC [.b d (.cells ⟨[.slice fy xs.length eO,zI (k:Int),zU cN]⟩ 105 (0,0))]<|jd 19 [0,0]<|aS 13 fun BX B6 An=>jd 1 [0]<|gx An []<|jd 16 [0,0]<|aS 13 fun As AA zi=>jd 1 [0]<|gx zi []<|jd 16 [0,0]<|aS 13 fun oP oR nK=>jd 1 [0]<|gx nK []<|jd 15 [0,0]<|zJ 52 ((k:Int) <(xs.length:Int)) (fun h4=>?_) fun h4=>?_
 ·
  refine jd 16 [0,0,0] ?_
  obtain⟨x66,Hj⟩:=zG xs k
  refine gX eO 1 lN Hj<|jl 0 (mC _ _ Hj)<|zD 5<|aS 20 fun qU qV pK=>jd 1 [0]<|gx pK []<|jd 6 [0]<|ja ((k:Int)+1) (by omega)<|jd 30 [0,0]<|zR (zU (cZ .u64 (IntKind.u64.wrap ((cZ .u64 (IntKind.u64.wrap ((cZ .u64 (cZ .u64 (cZ .u64 cN (dz .u64 cN 13)) (aT .u64 (cZ .u64 cN (dz .u64 cN 13)) 7)) (dz .u64 (cZ .u64 (cZ .u64 cN (dz .u64 cN 13)) (aT .u64 (cZ .u64 cN (dz .u64 cN 13)) 7)) 17))+(IntKind.u64.wrap ((IntKind.u64.wrap x66)*13787848793156543929)))) (aT .u64 (IntKind.u64.wrap ((cZ .u64 (cZ .u64 (cZ .u64 cN (dz .u64 cN 13)) (aT .u64 (cZ .u64 cN (dz .u64 cN 13)) 7)) (dz .u64 (cZ .u64 (cZ .u64 cN (dz .u64 cN 13)) (aT .u64 (cZ .u64 cN (dz .u64 cN 13)) 7)) 17))+(IntKind.u64.wrap ((IntKind.u64.wrap x66)*13787848793156543929)))) 30))*10723151780598845931)) (aT .u64 (IntKind.u64.wrap ((cZ .u64 (IntKind.u64.wrap ((cZ .u64 (cZ .u64 (cZ .u64 cN (dz .u64 cN 13)) (aT .u64 (cZ .u64 cN (dz .u64 cN 13)) 7)) (dz .u64 (cZ .u64 (cZ .u64 cN (dz .u64 cN 13)) (aT .u64 (cZ .u64 cN (dz .u64 cN 13)) 7)) 17))+(IntKind.u64.wrap ((IntKind.u64.wrap x66)*13787848793156543929)))) (aT .u64 (IntKind.u64.wrap ((cZ .u64 (cZ .u64 (cZ .u64 cN (dz .u64 cN 13)) (aT .u64 (cZ .u64 cN (dz .u64 cN 13)) 7)) (dz .u64 (cZ .u64 (cZ .u64 cN (dz .u64 cN 13)) (aT .u64 (cZ .u64 cN (dz .u64 cN 13)) 7)) 17))+(IntKind.u64.wrap ((IntKind.u64.wrap x66)*13787848793156543929)))) 30))*10723151780598845931)) 31))) [] [0] [(d,.cells ⟨[.slice fy xs.length eO,zI ((k:Int)+1),zU (IntKind.u64.wrap ((cZ .u64 (cZ .u64 (cZ .u64 cN (dz .u64 cN 13)) (aT .u64 (cZ .u64 cN (dz .u64 cN 13)) 7)) (dz .u64 (cZ .u64 (cZ .u64 cN (dz .u64 cN 13)) (aT .u64 (cZ .u64 cN (dz .u64 cN 13)) 7)) 17))+(IntKind.u64.wrap ((IntKind.u64.wrap x66)*13787848793156543929))))]⟩ 105 (0,0))] ⟨_,rfl,(uj _ _).1,(uj _ _).2,k+1,_,(by omega),rfl⟩
 refine jd 28 [0]<|zR (zU (cZ .u64 (IntKind.u64.wrap ((cZ .u64 (cZ .u64 (cZ .u64 (cZ .u64 cN (dz .u64 cN 13)) (aT .u64 (cZ .u64 cN (dz .u64 cN 13)) 7)) (dz .u64 (cZ .u64 (cZ .u64 cN (dz .u64 cN 13)) (aT .u64 (cZ .u64 cN (dz .u64 cN 13)) 7)) 17)) (aT .u64 (cZ .u64 (cZ .u64 (cZ .u64 cN (dz .u64 cN 13)) (aT .u64 (cZ .u64 cN (dz .u64 cN 13)) 7)) (dz .u64 (cZ .u64 (cZ .u64 cN (dz .u64 cN 13)) (aT .u64 (cZ .u64 cN (dz .u64 cN 13)) 7)) 17)) 30))*10723151780598845931)) (aT .u64 (IntKind.u64.wrap ((cZ .u64 (cZ .u64 (cZ .u64 (cZ .u64 cN (dz .u64 cN 13)) (aT .u64 (cZ .u64 cN (dz .u64 cN 13)) 7)) (dz .u64 (cZ .u64 (cZ .u64 cN (dz .u64 cN 13)) (aT .u64 (cZ .u64 cN (dz .u64 cN 13)) 7)) 17)) (aT .u64 (cZ .u64 (cZ .u64 (cZ .u64 cN (dz .u64 cN 13)) (aT .u64 (cZ .u64 cN (dz .u64 cN 13)) 7)) (dz .u64 (cZ .u64 (cZ .u64 cN (dz .u64 cN 13)) (aT .u64 (cZ .u64 cN (dz .u64 cN 13)) 7)) 17)) 30))*10723151780598845931)) 31))) [] [0] [(d,.cells ⟨[.slice fy xs.length eO,zI (k:Int),zU (cZ .u64 (cZ .u64 (cZ .u64 cN (dz .u64 cN 13)) (aT .u64 (cZ .u64 cN (dz .u64 cN 13)) 7)) (dz .u64 (cZ .u64 (cZ .u64 cN (dz .u64 cN 13)) (aT .u64 (cZ .u64 cN (dz .u64 cN 13)) 7)) 17))]⟩ 105 (0,0))] ⟨_,rfl,(uj _ _).1,(uj _ _).2,k,_,(by omega),rfl⟩
theorem EZ{n:Int}(hN:Dn ro vd xs)(hD:bK vd xs d X)(hn:n≤1000000):dG zT 25 [zP d,zI n] ro X (fun r Y=>∃w:Int,r= zI w∧0≤w∧(w≤n∨w=0)∧bK vd xs d Y):=by
 refine zC [.l X]<|zD 10<|zJ 6 (n <1) (fun h1=>?_) fun h1=>?_
 ·
  refine zD 6<|zR (zI 0) [] [0] X ⟨_,rfl,(by omega),(by omega),hD⟩
 refine zD 5<|jc [0] (aUU hN hD) ?_
 rintro _ X8 ⟨w8,rfl,hw8,hx8,hD8⟩
 refine zD 2<|ja (n+1) (by omega)<|zD 1<|jrm (k:= .u64) (a:=(aT .u64 w8 16)) (b:=(IntKind.u64.wrap (n+1))) 103 (toNonzero h1 hn)<|zD 4<|zR (zI (IntKind.i64.wrap (Int.tmod (aT .u64 w8 16) (IntKind.u64.wrap (n+1))))) [] [0] X8 ⟨_,rfl,(toRange h1 hn hw8).1,.inl (toRange h1 hn hw8).2,hD8⟩
theorem Bu(hN:Dn ro vd xs)(hD:bK vd xs d X)(Ba: -1000≤lo∧lo≤1000)(hhi: -1000≤hi∧hi≤1000):dG zT 36 [zP d,zI lo,zI hi] ro X (fun r Y=>∃w:Int,r= zI w∧lo≤w∧(w≤hi∨w=lo)∧bK vd xs d Y):=by
 refine zC [.l X]<|zD 10<|ja (hi-lo) (by omega)<|jc (vs:=[zP d,zI (hi-lo)]) [0] (EZ hN hD (by omega)) ?_
 rintro _ X12 ⟨w12,rfl,bc9,qn,aUm⟩
 refine ja (lo+w12) (by omega)<|zD 3<|zR (zI (lo+w12)) [] [0] X12 ⟨_,rfl,(by omega),(by omega),aUm⟩
theorem tB{n:Int}(hN:Dn ro vd xs)(hD:bK vd xs d X)(hn:0≤n∧n≤1000):dG zT 31 [zP d,zI n] ro X (fun r Y=>∃w:Bool,r= .bool w∧bK vd xs d Y):=by
 refine zC [.l X]<|zD 8<|ja (n-1) (by omega)<|jc (vs:=[zP d,zI (n-1)]) [0] (EZ hN hD (by omega)) ?_
 rintro _ X8 ⟨w8,rfl,hw8,hx8,hD8⟩
 refine zD 4<|zR (.bool (decide (w8=0))) [] [0] X8 ⟨_,rfl,hD8⟩
def bs(l:List Nat):ByteArray:=⟨(l.map UInt8.ofNat).toArray⟩
abbrev pQ(x:ByteArray):List Value:=[.string x]
structure bP where
 f:ByteArray
 t:ByteArray
abbrev iG(x:bP):List Value:=[.string x.f,.string x.t]
structure aB where
 name:ByteArray
 st:Int
 no:Int
 head:Int
 bold:Bool
abbrev eC(x:aB):List Value:=[.string x.name,.int .i64 x.st,.int .i64 x.no,.int .i64 x.head,.bool x.bold]
structure bM where
 a:Int
 b:Int
 same:Bool
variable {fs:List bM}
abbrev mY(x:bM):List Value:=[.int .i64 x.a,.int .i64 x.b,.bool x.same]
structure bN where
 name:ByteArray
 under:Int
variable {cs:List bN}
abbrev pe(x:bN):List Value:=[.string x.name,.int .i64 x.under]
structure aN where
 k:Int
 st:Int
 ot:Int
 fn:Int
 fl:Int
 tn:Int
 tl:Int
abbrev kS(x:aN):List Value:=[.int .i64 x.k,.int .i64 x.st,.int .i64 x.ot,.int .i64 x.fn,.int .i64 x.fl,.int .i64 x.tn,.int .i64 x.tl]
theorem lY{ps:List α}{x y:α}(h1:ps[i]?=some x) (h2:ps[k]?=some y):((ps.set i y).set k x).Perm ps:=by
 obtain⟨a,rfl⟩:=List.getElem?_eq_some_iff.1 h1
 obtain⟨b,rfl⟩:=List.getElem?_eq_some_iff.1 h2
 exact List.set_set_perm a b
theorem akm(hN:Dn ro vd xs)(hD:bK vd xs d X)(hm:bB ro vm 1 cy ys)(hy:0 <ys.length∧ys.length≤1000):dG zT 37 [zP d,vm] ro X (fun r Y=>∃w:Int,r= zI w∧w∈ys∧bK vd xs d Y):=by
 obtain⟨qma,qmb,qmo,qmc,rfl,qmk,qmh,qml⟩:=hm
 refine zC [.l X]<|zD 10<|ja ((ys.length:Int)-1) (by omega)<|jc (vs:=[zP d,zI ((ys.length:Int)-1)]) [0] (EZ hN hD (by omega)) ?_
 rintro _ X10 ⟨w10,rfl,ahm,sg,Wh⟩
 obtain⟨x11,Vp⟩:=zG ys (w10.toNat)
 refine I4 w10 qmc 1 qmh Vp (by omega)<|jl 0 (qml _ _ Vp)<|zD 3<|zR (zI x11) [] [0] X10 ⟨_,rfl,zL Vp,Wh⟩
theorem ZM{ys:List ByteArray}(hN:Dn ro vd xs)(hD:bK vd xs d X)(hm:bB ro vm 1 pQ ys)(hy:0 <ys.length∧ys.length≤1000):dG zT 86 [zP d,vm] ro X (fun r Y=>∃w:ByteArray,r= .string w∧w∈ys∧bK vd xs d Y):=by
 obtain⟨qma,qmb,qmo,qmc,rfl,qmk,qmh,qml⟩:=hm
 refine zC [.l X]<|zD 10<|ja ((ys.length:Int)-1) (by omega)<|jc (vs:=[zP d,zI ((ys.length:Int)-1)]) [0] (EZ hN hD (by omega)) ?_
 rintro _ X10 ⟨w10,rfl,ahm,sg,Wh⟩
 obtain⟨x11,Vp⟩:=zG ys (w10.toNat)
 refine I4 w10 qmc 1 qmh Vp (by omega)<|jl 0 (qml _ _ Vp)<|zD 3<|zR (.string x11) [] [0] X10 ⟨_,rfl,zL Vp,Wh⟩
theorem akl(hN:Dn ro vd xs)(hD:bK vd xs d X)(hn:n≤100):dG zT 82 [zP d,zI (n:Int)] ro X (fun r Y=>∃(ps:List Int) (L X':Cells),aw r 1 3 cy ps L∧ps.Perm (cd n)∧Y=L++X'∧bK vd xs d X'):=by
 refine zC [.l X]<|zD 14<|nI<|dw [1,1,0,1,0,0] [] (fun(zz:Nat×Value×Cells)=>[(0,zP d),(1,zI (n:Int)),(4,zS),(5,zz.2.1),(6,zI (zz.1:Int))]) (fun zz=>[.l zz.2.2,.l X]) (fun zz=>zz.1≤n∧aw zz.2.1 1 3 cy (cd zz.1) zz.2.2) (fun zz=>n-zz.1) (⟨0,zS,[]⟩) ⟨by omega,aw.nil _ _ _⟩ [0,1] ?_
 rintro⟨k,v,L⟩ hI K1 bG rest
 dsimp only at hI
 refine zD 7<|zJ 12 ((k:Int) <(n:Int)) (fun h1=>?_) fun h1=>?_
 ·
  refine zD 7<|jn fun b17=>iK (sz:=1) (ps:=cd k) (qs:=[(k:Int)]) (enc:=cy) (w:= .slice (some ⟨b17,0,none⟩) 1 1) [1] [0] [(b17,.cells ⟨([(k:Int)].map cy).flatten⟩ 3 (0,0))] (hI.2) (fun s _ hZ=>bV [(k:Int)] (hZ _ (.head _)) (by intro p hp;rfl)) (fun p _=>ai rfl) (by simp[cd];omega) (fun v18 L18 ahP=>?_)
  obtain⟨aea,aaw,NW⟩:=ahP.form
  subst NW
  refine zD 4<|ja ((k:Int)+1) (by omega)<|zD 2<|bF bG (⟨k+1,(.slice aea ((cd k++[(k:Int)])).length aaw),L18⟩) ⟨by omega,by rw[q8];exact ahP⟩ (by omega) [0,2] (Sub.refl _)
 refine zD 6<|ja ((n:Int)-1) (by omega)<|zD 3<|dw [1,1,1,0,1,0,0] [] (fun(zz:Int×Value×Cells×(List Int)×Cells)=>[(0,zP d),(4,zS),(5,zz.2.1),(7,zI zz.1)]) (fun zz=>[.l zz.2.2.1,.l zz.2.2.2.2]) (fun zz=>(-1≤zz.1∧zz.1 <n)∧aw zz.2.1 1 3 cy zz.2.2.2.1 zz.2.2.1∧zz.2.2.2.1.Perm (cd n)∧bK vd xs d zz.2.2.2.2) (fun zz=>zz.1.toNat) (⟨(n:Int)-1,v,L,cd k,X⟩) ⟨by omega,hI.2,(by rw[show k=n by omega]),hD⟩ [0,1] ?_
 rintro⟨j,v,L,ps,X⟩ N6 K2 jV rest
 dsimp only at N6
 have hlen:ps.length=n:=by rw[N6.2.2.1.length_eq,gh]
 refine zD 6<|zJ 22 (j>0) (fun h2=>?_) fun h2=>?_
 ·
  refine zD 8<|jc (vs:=[zP d,zI j]) [1] (EZ hN N6.2.2.2 (by omega)) ?_
  rintro _ X27 ⟨w27,rfl,bc5,CN,aUh⟩
  refine zD 6 ?_
  obtain⟨kB,fS⟩:=zG ps (j.toNat)
  refine mW j 1 N6.2.1 fS (by omega) fun b30 NZ=>ki 0 [1] L (fun s _ hZ=>bh N6.2.1 NZ hZ fS)<|zD 8 ?_
  obtain⟨x36,y5⟩:=zG ps (w27.toNat)
  refine mW w27 1 N6.2.1 y5 (by omega) fun q6 ax4=>ki 0 [1] L (fun s _ hZ=>bh N6.2.1 ax4 hZ y5) ?_
  obtain⟨x38,NK⟩:=zG ps (j.toNat)
  refine mW j 1 N6.2.1 NK (by omega) fun b38 aTb=>Fp 1 0 [zI x36] x36 N6.2.1 aTb NK rfl rfl (Nat.le_of_ble_eq_true rfl) fun L3 ho4=>zD 5 ?_
  obtain⟨x42,Vn⟩:=zG ((ps.set j.toNat x36)) (w27.toNat) (by first|omega| (simp only[List.length_set,zM];omega))
  refine mW w27 1 ho4 Vn (by omega) fun b42 aTa=>Fp 0 0 [zI kB] kB ho4 aTa Vn rfl rfl (Nat.le_of_ble_eq_true rfl) fun L5 ho6=>zD 3<|ja (j-1) (by omega)<|zD 2<|bF jV (⟨j-1,v,L5,((ps.set j.toNat x36).set w27.toNat kB),X27⟩) ⟨by omega,ho6,(lY fS y5).trans N6.2.2.1,aUh⟩ (by omega) [0,1] (Sub.refl _)
 refine zD 8<|zR (v) [] [0,1] (L++X) ⟨_,_,_,N6.2.1,N6.2.2.1,rfl,N6.2.2.2⟩
theorem SM(p:Int→Bool)(k:Nat):(cd (k+1)).filter p=bif p (k:Int) then (cd k).filter p++[(k:Int)] else (cd k).filter p:=by
 rw[q8,List.filter_append]
 cases h:p (k:Int)<;>simp[h]
theorem nD{x:Int}(h:x∈cd n):0≤x∧x <n:=by
 simp only[cd,List.mem_map,List.mem_range] at h
 obtain⟨i,h1,rfl⟩:=h
 omega
theorem rR(n:Nat):(cd n).Pairwise (· < ·):=by
 simp only[cd]
 rw[List.pairwise_map]
 exact List.pairwise_lt_range.imp fun h=>by omega
theorem zp(x:Int)(l:List Int)(k:Nat):x∈l→(k:Int)≤bQ (fun y=>decide (y=x)) l k∧∃i,bQ (fun y=>decide (y=x)) l k=k+i∧l[i.toNat]?=some x∧0≤i:=by
 induction l generalizing k with
 |nil=>intro h;cases h
 |cons y l ih=>
  intro h
  by_cases e:y=x
  ·subst e
   simp only[bQ,decide_true,cond_true]
   exact⟨Int.le_refl _,0,by simp,by simp,by simp⟩
  simp only[bQ,e,decide_false,cond_false]
  obtain⟨h1,i,h2,h3,h4⟩:=ih (k+1) ((List.mem_cons.1 h).resolve_left fun e2=>e e2.symm)
  refine⟨by omega,i+1,by rw[h2];omega,?_,by omega⟩
  rw[show (i+1).toNat=i.toNat+1 by omega]
  simpa using h3
theorem afs{q:List Int}(hq:q.Perm (cd n)):((cd n).filter fun i=>decide (bQ (fun y=>decide (y=i)) q 0 <many)).length≤many.toNat:=by
 have iX:∀x,x∈cd n→x∈q:=fun x hx=>hq.mem_iff.2 hx
 have h1:(((cd n).filter fun i=>decide (bQ (fun y=>decide (y=i)) q 0 <many)).map fun i=>bQ (fun y=>decide (y=i)) q 0).Nodup:=by
  rw[List.nodup_iff_pairwise_ne,List.pairwise_map]
  refine((rR n).filter _).imp_of_mem fun {a b} ha hb zg e=>?_
  obtain⟨_,i,e1,g1,_⟩:=zp a q 0 (iX a ((List.mem_filter.1 ha).1))
  obtain⟨_,j,e2,g2,_⟩:=zp b q 0 (iX b ((List.mem_filter.1 hb).1))
  have:i=j:=by omega
  subst this
  rw[g1] at g2
  cases g2
  omega
 have h2:=xy (l₂:=cd many.toNat) h1 fun x hx=>by
  obtain⟨i,h3,rfl⟩:=List.mem_map.1 hx
  obtain⟨h4,h5⟩:=List.mem_filter.1 h3
  have h6:=of_decide_eq_true h5
  obtain⟨h7,_⟩:=zp i q 0 (iX i h4)
  simp only[cd,List.mem_map,List.mem_range]
  exact⟨(bQ (fun y=>decide (y=i)) q 0).toNat,by omega,by omega⟩
 simpa [gh] using h2
theorem JZ(p:α→Bool)(l:List α):(l.filter p).length≤l.length:=List.length_filter_le p l
theorem aIt(hN:Dn ro vd xs)(hD:bK vd xs d X)(hn:n≤100):dG zT 84 [zP d,zI (n:Int),zI many] ro X (fun r Y=>∃(ps:List Int) (L X':Cells),aw r 1 3 cy ps L∧ps.length≤many.toNat∧ps.Pairwise (· < ·)∧(∀x∈ps,0≤x∧x <n)∧Y=L++X'∧bK vd xs d X'):=by
 refine zC [.l X]<|zD 8<|jc (vs:=[zP d,zI (n:Int)]) [0] (akl hN hD (by first|omega|decide)) ?_
 rintro v13 _ ⟨abd,L13,X13,NQ,RQ,rfl,ao9⟩
 refine jg 0 [.l L13,.l X13]<|zD 12<|nI<|dw [1,1,1,0,1,0,0] [] (fun(zz:Nat×Value×Cells)=>[(1,zI (n:Int)),(2,zI many),(6,zS),(7,v13),(8,zz.2.1),(9,zI (zz.1:Int))]) (fun zz=>[.l zz.2.2,.l L13,.l X13]) (fun zz=>zz.1≤n∧aw zz.2.1 1 3 cy ((cd zz.1).filter (fun i=>decide (bQ (fun y=>decide (y=i)) abd 0 <many))) zz.2.2) (fun zz=>n-zz.1) (⟨0,zS,[]⟩) ⟨by omega,aw.nil _ _ _⟩ [0,1,2] ?_
 rintro⟨k,v,L⟩ hI K1 bG rest
 dsimp only at hI
 have hlen:abd.length=n:=by rw[RQ.length_eq,gh]
 have vv:=JZ (fun i=>decide (bQ (fun y=>decide (y=i)) abd 0 <many)) (cd k)
 rw[gh] at vv
 refine zD 7<|zJ 16 ((k:Int) <(n:Int)) (fun h1=>?_) fun h1=>?_
 ·
  refine zD 8<|jp (vs:=[v13,zI (k:Int)]) [1] L13 (fun aG hs hZ=>agY (NQ.jF hZ) (by first|omega| (simp only[List.length_set,zM];omega))) ?_
  refine zD 8<|zJ 24 ((bQ (fun y=>decide (y=(k:Int))) abd 0) <many) (fun h2=>?_) fun h2=>?_
  ·
   refine zD 4<|jn fun b27=>iK (sz:=1) (ps:=((cd k).filter (fun i=>decide (bQ (fun y=>decide (y=i)) abd 0 <many)))) (qs:=[(k:Int)]) (enc:=cy) (w:= .slice (some ⟨b27,0,none⟩) 1 1) [1] [0] [(b27,.cells ⟨([(k:Int)].map cy).flatten⟩ 3 (0,0))] (hI.2) (fun s _ hZ=>bV [(k:Int)] (hZ _ (.head _)) (by intro p hp;rfl)) (fun p _=>ai rfl) (by simp only[List.length_cons,List.length_nil];omega) (fun v28 L28 ahL=>?_)
   obtain⟨aMt,aL9,ab4⟩:=ahL.form
   subst ab4
   refine zD 4<|ja ((k:Int)+1) (by omega)<|zD 2<|bF bG (⟨k+1,(.slice aMt ((((cd k).filter (fun i=>decide (bQ (fun y=>decide (y=i)) abd 0 <many)))++[(k:Int)])).length aL9),L28⟩) ⟨by omega,by rw[SM,decide_eq_true h2];exact ahL⟩ (by omega) [0,2,3] (Sub.refl _)
  refine zD 4<|ja ((k:Int)+1) (by omega)<|zD 2<|bF bG (⟨k+1,v,L⟩) ⟨by omega,by rw[SM,decide_eq_false h2];exact hI.2⟩ (by omega) [0,1,2] (Sub.refl _)
 refine zD 8<|zR (v) [] [0,2] (L++X13) ⟨_,_,_,hI.2,by rw[show k=n by omega];exact afs RQ,(rR k).filter _,fun x hx=>by have:=nD ((List.mem_filter.1 hx).1);omega,rfl,ao9⟩
def asg:List ByteArray:=[bs [101],bs [121],bs [115,104],bs [97],bs [110,110],bs [116,104],bs [109]]
def toW:List ByteArray:=[bs [],bs [105],bs [115],bs [116],bs [97,101],bs [106],bs [110]]
def IU(r:bP):Prop:=r.f∈asg∧r.t∈toW
def jA(c:aN):Prop:=c∈[(⟨1,0,0,0,0,0,0⟩:aN),⟨2,0,0,0,0,0,0⟩,⟨1,1,0,0,0,0,0⟩,⟨2,1,0,0,0,0,0⟩,⟨4,1,0,0,0,0,0⟩]
theorem qL{p:α→Prop}{l:List α}{x:α}(h:∀y∈l,p y)(hx:p x):∀y∈l++[x],p y:=fun y hy=>by
 rcases List.mem_append.1 hy with h1|h1
 ·exact h y h1
 rw[List.mem_singleton] at h1;subst h1;exact hx
theorem ay1(hN:Dn ro vd xs)(hD:bK vd xs d X)(hn:0≤many∧many≤100):dG zT 33 [zP d,zI many] ro X (fun r Y=>∃(ps:List bP) (L X':Cells),aw r 2 92 iG ps L∧ps.length≤many∧(∀r∈ps,IU r)∧Y=L++X'∧bK vd xs d X'):=by
 refine zC [.l X]<|zD 13<|jc (vs:=[zP d,zI many]) [0] (EZ hN hD (by omega)) ?_
 rintro _ X10 ⟨w10,rfl,ahm,sg,Wh⟩
 refine zD 3<|nI<|dw [1,1,0,1,0,0] [] (fun(zz:Int×Value×Cells×(List bP)×Cells)=>[(0,zP d),(4,zS),(5,zz.2.1),(6,zI zz.1)]) (fun zz=>[.l zz.2.2.1,.l zz.2.2.2.2]) (fun zz=>(0≤zz.1∧zz.2.2.2.1.length+zz.1≤many)∧aw zz.2.1 2 92 iG zz.2.2.2.1 zz.2.2.1∧(∀r∈zz.2.2.2.1,IU r)∧bK vd xs d zz.2.2.2.2) (fun zz=>zz.1.toNat) (⟨w10,zS,[],[],X10⟩) ⟨by simp only[List.length_nil];omega,aw.nil _ _ _,(fun _ h=>by cases h),Wh⟩ [0,1] ?_
 rintro⟨j,v,L,ps,X⟩ hI K1 bG rest
 dsimp only at hI
 refine zD 6<|zJ 12 (j>0) (fun h1=>?_) fun h1=>?_
 ·
  refine zD 7<|jn fun b16=>jcL (vs:=[zP d,.slice (some ⟨b16,0,none⟩) 7 7]) [2] [0] [(b16,.cells ⟨([(bs [101]),(bs [121]),(bs [115,104]),(bs [97]),(bs [110,110]),(bs [116,104]),(bs [109])].map pQ).flatten⟩ 9 (0,0))] (fun aG hs hZ=>ZM (hN.up hs) hI.2.2.2 (bU [(bs [101]),(bs [121]),(bs [115,104]),(bs [97]),(bs [110,110]),(bs [116,104]),(bs [109])] hZ.head (by intro p hp;rfl)) (by decide)) ?_
  rintro _ X17 ⟨w17,rfl,aQq,aUl⟩
  refine zD 1<|jn fun IM=>jcL (vs:=[zP d,.slice (some ⟨IM,0,none⟩) 7 7]) [1] [0] [(IM,.cells ⟨([(bs []),(bs [105]),(bs [115]),(bs [116]),(bs [97,101]),(bs [106]),(bs [110])].map pQ).flatten⟩ 9 (0,0))] (fun aG hs hZ=>ZM (hN.up hs) aUl (bU [(bs []),(bs [105]),(bs [115]),(bs [116]),(bs [97,101]),(bs [106]),(bs [110])] hZ.head (by intro p hp;rfl)) (by decide)) ?_
  rintro _ X20 ⟨w20,rfl,awj,ai4⟩
  refine zD 1<|jn fun b7=>jd 5 [0,0]<|jn fun FC=>iK (sz:=2) (ps:=ps) (qs:=[(⟨w17,w20⟩:bP)]) (enc:=iG) (w:= .slice (some ⟨FC,0,none⟩) 1 1) [5] [0] [(FC,.cells ⟨([(⟨w17,w20⟩:bP)].map iG).flatten⟩ 92 (0,0))] (hI.2.1) (fun s _ hZ=>bV [(⟨w17,w20⟩:bP)] (hZ _ (.head _)) (by intro p hp;rfl)) (fun p _=>ai rfl) (by simp<;>omega) (fun v25 L25 ahN=>?_)
  obtain⟨aMv,aMb,aSv⟩:=ahN.form
  subst aSv
  refine zD 4<|ja (j-1) (by omega)<|zD 2<|bF bG (⟨j-1,(.slice aMv ((ps++[(⟨w17,w20⟩:bP)])).length aMb),L25,(ps++[(⟨w17,w20⟩:bP)]),X20⟩) ⟨by simp only[zM];omega,ahN,qL hI.2.2.1 ⟨aQq,awj⟩,ai4⟩ (by omega) [0,3] (Sub.refl _)
 refine zD 8<|zR (v) [] [0,1] (L++X) ⟨_,_,_,hI.2.1,(by omega),hI.2.2.1,rfl,hI.2.2.2⟩
theorem aIs(hN:Dn ro vd xs)(hD:bK vd xs d X):dG zT 32 [zP d] ro X (fun r Y=>∃w:aN,r= .agg ⟨kS w⟩∧jA w∧bK vd xs d Y):=by
 refine zC [.l X]<|zD 2<|jn fun b2=>zD 8<|jn fun b9=>zD 9<|jc (vs:=[zP d,zI 4]) [2] (EZ hN hD (by omega)) ?_
 rintro _ X15 ⟨w15,rfl,aQr,JK,ayu⟩
 obtain⟨BZ,oX⟩:=zG ([(⟨1,0,0,0,0,0,0⟩:aN),(⟨2,0,0,0,0,0,0⟩:aN),(⟨1,1,0,0,0,0,0⟩:aN),(⟨2,1,0,0,0,0,0⟩:aN),(⟨4,1,0,0,0,0,0⟩:aN)]:List _) (w15.toNat) (show w15.toNat <5 from by omega)
 refine I4 (a:=(some ⟨b9,0,none⟩)) (b:=b9) (off:=0) w15 5 7 (fun _ _=>rfl) oX (by omega)<|ki (m:=7) 0 [1] [(b9,.cells ⟨([(⟨1,0,0,0,0,0,0⟩:aN),(⟨2,0,0,0,0,0,0⟩:aN),(⟨1,1,0,0,0,0,0⟩:aN),(⟨2,1,0,0,0,0,0⟩:aN),(⟨4,1,0,0,0,0,0⟩:aN)].map kS).flatten⟩ 85 (0,0))] (fun s _ hZ=>xp (hZ _ (.head _)) (by intro p hp;rfl) oX) ?_
 refine jd 3 [2]<|zR (.agg ⟨[zI BZ.k,zI BZ.st,zI BZ.ot,zI BZ.fn,zI BZ.fl,zI BZ.tn,zI BZ.tl]⟩) [2] [0] X15 ⟨BZ,rfl,zL oX,ayu⟩
def Hc(b:UInt8):Bool:=Nat.ble 97 b.toNat&&Nat.ble b.toNat 122
def GR(b:UInt8):Bool:=Nat.ble 65 b.toNat&&(Nat.ble b.toNat 90&& !(Nat.beq b.toNat 72||Nat.beq b.toNat 81||Nat.beq b.toNat 87))
def Script(w:ByteArray):Prop:=(∀b∈w.data.toList,Hc b=true)∨(∀b∈w.data.toList,GR b=true)
def aal(w:ByteArray):Prop:=(0 <w.size∧w.size≤7)∧Script w
def OT(w:ByteArray):Prop:=(1≤w.size∧w.size≤3)∧Script w
theorem aeK{w:ByteArray}(h:(w.data.toList.all Hc||w.data.toList.all GR)=true)(h1:(Nat.blt 0 w.size&&Nat.ble w.size 7)=true):aal w:=by
 simp only[Bool.or_eq_true,List.all_eq_true] at h
 simp only[Bool.and_eq_true,Nat.blt_eq,Nat.ble_eq] at h1
 exact⟨h1,h⟩
theorem aCd{w:ByteArray}(h:w∈[bs [97,101,115],bs [115,104,101,116,97],bs [115,109,105,116,121,104,97],bs [99,104,106,97],bs [97,110,110,101]]):aal w:=by
 simp only[List.mem_cons,List.not_mem_nil,or_false] at h
 rcases h with rfl|rfl|rfl|rfl|rfl<;>exact aeK (by decide) (by decide)
theorem aCc{w:ByteArray}(h:w∈[bs [65,69,83],bs [88,69,84,65],bs [83,77,73,84,89,65],bs [67,74,65,88],bs [65,78,78,69]]):aal w:=by
 simp only[List.mem_cons,List.not_mem_nil,or_false] at h
 rcases h with rfl|rfl|rfl|rfl|rfl<;>exact aeK (by decide) (by decide)
def nB:List ByteArray:=[bs [102,111,111,100],bs [98,114,101,97,100],bs [99,108,111,116,104],bs [104,97,116,115],bs [119,111,111,100],bs [105,114,111,110],bs [98,101,101,114],bs [105,110],bs [115,101,101]]
def pz:List ByteArray:=[bs [98,97,107,101,114],bs [98,97,107,101,114,115],bs [98,111,110,110,101,116,115],bs [98,114,101,119,101,114],bs [98,114,117,115,104,101,115],bs [98,117,116,99,104,101,114],bs [99,97,110,100,108,101,115],bs [99,111,111,112,101,114],bs [99,111,111,112,101,114,115],bs [99,117,116,108,101,114],bs [104,97,116,116,101,114],bs [104,111,115,105,101,114],bs [109,101,114,99,101,114],bs [109,105,108,108,105,110,101,114],bs [116,97,105,108,111,114],bs [116,97,110,110,101,114]]
theorem AT{T:TypeId}{enc:α→List Value}(ps:List α)(hn:ps.length=n)(hl:∀p∈ps,(enc p).length=sz):aw (.slice (some ⟨b,0,none⟩) n n) sz T enc ps [(b,.cells ⟨(ps.map enc).flatten⟩ T (0,0))]:=by
 subst hn
 exact .inr ⟨b,_,ps.length,rfl,rfl,ku ps hl,Nat.le_refl _,hl,by rw[←ku ps hl,List.take_length]⟩
theorem Uh{s t w:ByteArray}(h:∀b∈s.data.toList,b∈w.data.toList)(k:∀b∈t.data.toList,b∈w.data.toList):∀b∈(s++t).data.toList,b∈w.data.toList:=fun b hb=>by
 rw[ByteArray.data_append,Array.toList_append,List.mem_append] at hb
 exact hb.elim (h b) (k b)
theorem P7{w:ByteArray}(i j:Nat):∀b∈(w.extract i j).data.toList,b∈w.data.toList:=fun b hb=>by
 rw[ByteArray.data_extract,Array.toList_extract] at hb
 exact List.mem_of_mem_drop (List.mem_of_mem_take (by simpa [List.extract] using hb))
theorem Uu{s w:ByteArray}(h:∀b∈s.data.toList,b∈w.data.toList)(hw:Script w):Script s:=hw.imp (fun k b hb=>k b (h b hb)) (fun k b hb=>k b (h b hb))
theorem ZN(hN:Dn ro vd xs)(hD:bK vd xs d X):dG zT 35 [zP d,zI 3] ro X (fun r Y=>∃w:ByteArray,r= .string w∧OT w∧bK vd xs d Y):=by
 refine zC [.l X]<|zD 7<|jn fun pf=>jcL (vs:=[zP d,.slice (some ⟨pf,0,none⟩) 5 5]) [1] [0] [(pf,.cells ⟨([(bs [97,101,115]),(bs [115,104,101,116,97]),(bs [115,109,105,116,121,104,97]),(bs [99,104,106,97]),(bs [97,110,110,101])].map pQ).flatten⟩ 9 (0,0))] (fun aG hs hZ=>ZM (hN.up hs) hD (bU [(bs [97,101,115]),(bs [115,104,101,116,97]),(bs [115,109,105,116,121,104,97]),(bs [99,104,106,97]),(bs [97,110,110,101])] hZ.head (by intro p hp;rfl)) (by decide)) ?_
 rintro _ X11 ⟨w11,rfl,aQt,aUn⟩
 refine zD 6<|jc (vs:=[zP d,zI 3]) [0] (tB hN aUn (by omega)) ?_
 rintro _ X13 ⟨w13,rfl,ao9⟩
 refine zD 1<|EG [1,1,1] [] (fun(zz:ByteArray×Cells)=>[(0,zP d),(1,zI 3),(4,.string (bs [])),(5,.string zz.1)]) (fun zz=>[.l zz.2]) (fun zz=>aal zz.1∧bK vd xs d zz.2) ?_ (fun K1 bG=>?_)
 ·
  rintro⟨w,X⟩ hJ rest
  dsimp only at hJ
  obtain⟨⟨Y1,hw7⟩,si⟩:=hJ.1
  refine zD 9<|jmn (k:= .i64) (a:=3) (b:=6)<|jc (vs:=[zP d,zI 1,zI (min 3 6)]) [0] (Bu hN hJ.2 (by omega) (by omega)) ?_
  rintro _ X20 ⟨w20,rfl,awj,CQ,ai4⟩
  refine zD 3<|dw [1,1,1,1,0,1,0,0] [] (fun(zz:Int×ByteArray×Cells)=>[(0,zP d),(4,.string (bs [])),(5,.string w),(6,.string zz.2.1),(7,zI zz.1)]) (fun zz=>[.l zz.2.2]) (fun zz=>(0≤zz.1∧zz.2.1.size+zz.1=w20)∧(∀b∈zz.2.1.data.toList,b∈w.data.toList)∧bK vd xs d zz.2.2) (fun zz=>zz.1.toNat) (⟨w20,bs [],X20⟩) ⟨⟨by omega,by simp[bs,ByteArray.size]⟩,(fun _ h=>by simp[bs] at h),ai4⟩ [0] ?_
  rintro⟨j,t,Z⟩ hI K2 jV rest
  dsimp only at hI
  refine zD 6<|zJ 22 (j>0) (fun h1=>?_) fun h1=>?_
  ·
   refine zD 9<|ja ((w.size:Int)-1) (by omega)<|jc (vs:=[zP d,zI ((w.size:Int)-1)]) [0] (EZ hN hI.2.2 (by omega)) ?_
   rintro _ X29 ⟨w29,rfl,bc4,A5,aUg⟩
   refine zD 7<|ja (w29+1) (by omega)<|jtB (b:=w) (lo:=w29) (hi:=(w29+1)) (by omega)<|jsa (a:=t) (b:=(w.extract w29.toNat (w29+1).toNat)) 9 (by rw[ByteArray.size_extract];omega) ?_
   refine zD 4<|ja (j-1) (by omega)<|zD 2<|bF jV (⟨j-1,(t++(w.extract w29.toNat (w29+1).toNat)),X29⟩) ⟨⟨by omega,by rw[ByteArray.size_append,ByteArray.size_extract];omega⟩,Uh hI.2.1 (P7 _ _),aUg⟩ (by omega) [0] (Sub.refl _)
  refine zD 8<|zR (.string t) [] [0] Z ⟨_,rfl,⟨by omega,Uu hI.2.1 si⟩,hI.2.2⟩
 refine js 13 w13 (fun h2=>?_) (fun h2=>?_)
 ·
  subst h2
  refine zD 3<|jn fun IN=>jcL (vs:=[zP d,.slice (some ⟨IN,0,none⟩) 5 5]) [1] [0] [(IN,.cells ⟨([(bs [65,69,83]),(bs [88,69,84,65]),(bs [83,77,73,84,89,65]),(bs [67,74,65,88]),(bs [65,78,78,69])].map pQ).flatten⟩ 9 (0,0))] (fun aG hs hZ=>ZM (hN.up hs) ao9 (bU [(bs [65,69,83]),(bs [88,69,84,65]),(bs [83,77,73,84,89,65]),(bs [67,74,65,88]),(bs [65,78,78,69])] hZ.head (by intro p hp;rfl)) (by decide)) ?_
  rintro _ X16 ⟨w16,rfl,aEZ,ai5⟩
  refine zD 2<|bF bG ⟨w16,X16⟩ ⟨aCc aEZ,ai5⟩ Nat.zero_lt_one [0] (Sub.refl _)
 subst h2
 refine zD 2<|bF bG ⟨w11,X13⟩ ⟨aCd aQt,ao9⟩ Nat.zero_lt_one [0] (Sub.refl _)
theorem agM:dG zT 83 [] ro [] (fun r Y=>∃L,aw r 1 9 pQ nB L∧Y=L):=by
 refine zE<|zD 6<|jn fun b1=>zD 3<|zR (.slice (some ⟨b1,0,none⟩) 9 9) [] [0] [(b1,.cells ⟨[.string (bs [102,111,111,100]),.string (bs [98,114,101,97,100]),.string (bs [99,108,111,116,104]),.string (bs [104,97,116,115]),.string (bs [119,111,111,100]),.string (bs [105,114,111,110]),.string (bs [98,101,101,114]),.string (bs [105,110]),.string (bs [115,101,101])]⟩ 9 (0,0))] ⟨_,AT nB rfl (by intro p hp;rfl),rfl⟩
theorem ag4:dG zT 85 [] ro [] (fun r Y=>∃L,aw r 1 9 pQ pz L∧Y=L):=by
 refine zE<|zD 6<|jn fun b1=>zD 3<|zR (.slice (some ⟨b1,0,none⟩) 16 16) [] [0] [(b1,.cells ⟨[.string (bs [98,97,107,101,114]),.string (bs [98,97,107,101,114,115]),.string (bs [98,111,110,110,101,116,115]),.string (bs [98,114,101,119,101,114]),.string (bs [98,114,117,115,104,101,115]),.string (bs [98,117,116,99,104,101,114]),.string (bs [99,97,110,100,108,101,115]),.string (bs [99,111,111,112,101,114]),.string (bs [99,111,111,112,101,114,115]),.string (bs [99,117,116,108,101,114]),.string (bs [104,97,116,116,101,114]),.string (bs [104,111,115,105,101,114]),.string (bs [109,101,114,99,101,114]),.string (bs [109,105,108,108,105,110,101,114]),.string (bs [116,97,105,108,111,114]),.string (bs [116,97,110,110,101,114])]⟩ 9 (0,0))] ⟨_,AT pz rfl (by intro p hp;rfl),rfl⟩
structure bx where
 word:ByteArray
 cls:Int
 ou:Int
 dV:Value
abbrev mf(x:bx):List Value:=[.string x.word,zI x.cls,zI x.ou,x.dV]
def Xk(hs:List bx)(i:Int):Prop:=0≤i∧∃h,hs[i.toNat]?=some h∧0≤h.cls
theorem W6{p:α→Bool}{l:List α}{x:α}(h:l[k]?=some x):(l.drop k).any p=(p x||(l.drop (k+1)).any p):=by rw[eE h];rfl
theorem apR{p:α→Bool}{l:List α}(h:¬k <l.length):(l.drop k).any p=false:=by rw[eA h];rfl
def DF(fs:List bM)(a b:Int):Bool:=fs.any fun y=>decide (y.a=a)&&decide (y.b=b)
theorem xK{hs:List bx}(hN:Dn ro vd xs)(hD:bK vd xs d X)(hh:bB ro vh 4 mf hs)(hn:hs.length≤100):dG zT 34 [zP d,.agg ⟨[zI 2,zI 0,zI 0,vc,vh,zS,zS]⟩,.string nm] ro X (fun r Y=>∃w:aB,r= .agg ⟨eC w⟩∧w.name=nm∧(0≤w.st∧w.st≤1)∧(w.head= -1∨Xk hs w.head)∧bK vd xs d Y):=by
 obtain⟨dJ,u5,u4,dv,rfl,xq,qX,qW⟩:=hh
 refine zC [.l X]<|zD 2<|jn fun b4=>jn fun b6=>jd 8 [1]<|jc (vs:=[zP d,zI 1]) [2] (EZ hN hD (by omega)) ?_
 rintro _ X15 ⟨w15,rfl,aQr,JK,ayu⟩
 refine zD 2<|jc (vs:=[zP d,zI 1,zI 3]) [0] (Bu hN ayu (by omega) (by omega)) ?_
 rintro _ X18 ⟨w18,rfl,bc8,bcW,Sq⟩
 refine zD 1<|jc (vs:=[zP d,zI 1,zI 3]) [0] (Bu hN Sq (by omega) (by omega)) ?_
 rintro _ X20 ⟨w20,rfl,awj,CQ,ai4⟩
 refine zD 1<|jc (vs:=[zP d,zI 1,zI 40]) [0] (Bu hN ai4 (by omega) (by omega)) ?_
 rintro _ X22 ⟨w22,rfl,bc7,uk,aUj⟩
 refine jn fun b23=>jcL (vs:=[zP d,.slice (some ⟨b23,0,none⟩) 3 3]) [1] [0] [(b23,.cells ⟨([w18,w20,w22].map cy).flatten⟩ 3 (0,0))] (fun aG hs hZ=>akm (hN.up hs) aUj (bU [w18,w20,w22] hZ.head (by intro p hp;rfl)) (by simp)) ?_
 rintro _ X24 ⟨w24,rfl,bc6,aUi⟩
 refine zD 1<|jc (vs:=[zP d,zI 4]) [0] (tB hN aUi (by omega)) ?_
 rintro _ X26 ⟨w26,rfl,aHw⟩
 refine zD 1<|jn fun b7=>jd 12 [0]<|nI<|dw [1,1,1,0,1,0,0] [] (fun(zz:Nat×Value×Cells×(List Int))=>[(0,zP d),(4,zP b4),(6,zP b6),(7,zP b7),(8,zz.2.1),(9,zI (zz.1:Int))]) (fun zz=>[.l zz.2.2.1,.l X26,.b b7 (.cells ⟨[.string nm,zI w15,zI w24,zI (-1),.bool w26]⟩ 76 (0,0)),.b b6 (.cells ⟨[.string ByteArray.empty,zI 0,zI 0,zI 0,.bool false]⟩ 76 (0,0)),.b b4 (.cells ⟨[zI 2,zI 0,zI 0,vc,.slice dJ hs.length dv,zS,zS]⟩ 94 (0,0))]) (fun zz=>(zz.1≤hs.length∧zz.2.2.2.length≤zz.1)∧aw zz.2.1 1 3 cy zz.2.2.2 zz.2.2.1∧∀i∈zz.2.2.2,Xk hs i) (fun zz=>hs.length-zz.1) (⟨0,zS,[],[]⟩) ⟨⟨by omega,by simp⟩,aw.nil _ _ _,(fun _ h=>by cases h)⟩ [0,2,1,4,5] ?_
 rintro⟨k,v,L,ps⟩ hI K1 bG rest
 dsimp only at hI
 refine jd 10 [4]<|zJ 33 ((k:Int) <(hs.length:Int)) (fun h1=>?_) fun h1=>?_
 ·
  refine jd 10 [4] ?_
  obtain⟨x40,awd⟩:=zG hs k
  refine gX dv 4 qX awd<|zD 1<|jl 1 (qW _ _ awd)<|zD 2<|zJ 43 (x40.cls≥0) (fun h2=>?_) fun h2=>?_
  ·
   refine zD 4<|jn fun b46=>iK (sz:=1) (ps:=ps) (qs:=[(k:Int)]) (enc:=cy) (w:= .slice (some ⟨b46,0,none⟩) 1 1) [1] [0] [(b46,.cells ⟨([(k:Int)].map cy).flatten⟩ 3 (0,0))] (hI.2.1) (fun s _ hZ=>bV [(k:Int)] (hZ _ (.head _)) (by intro p hp;rfl)) (fun p _=>ai rfl) (by simp<;>omega) (fun v47 L47 ahH=>?_)
   obtain⟨aMp,aL5,aSr⟩:=ahH.form
   subst aSr
   refine zD 4<|ja ((k:Int)+1) (by omega)<|zD 2<|bF bG (⟨k+1,(.slice aMp ((ps++[(k:Int)])).length aL5),L47,(ps++[(k:Int)])⟩) ⟨by simp only[zM];omega,ahH,qL hI.2.2 ⟨by omega,x40,awd,by assumption⟩⟩ (by omega) [0,2,3,4,5] (Sub.refl _)
  refine zD 4<|ja ((k:Int)+1) (by omega)<|zD 2<|bF bG (⟨k+1,v,L,ps⟩) ⟨by dsimp only;omega,hI.2⟩ (by omega) (zN 0 5) (Sub.refl _)
 refine zD 6<|BQ hI.2.1<|zD 2<|js 51 (decide ((ps.length:Int)>0)) (fun h3=>?_) (fun h3=>?_)
 ·
  have wD:=h3
  replace wD:=of_decide_eq_true wD
  refine zD 1<|jc (vs:=[zP d,zI 4]) [1] (tB hN aHw (by omega)) ?_
  rintro _ X53 ⟨w53,rfl,ao8⟩
  refine zD 3<|js 55 (!w53) (fun h4=>?_) (fun h4=>?_)
  ·
   try simp only[zB] at h4
   refine zD 5<|BQ hI.2.1<|ja ((ps.length:Int)-1) (by omega)<|jc (vs:=[zP d,zI ((ps.length:Int)-1)]) [0] (EZ hN ao8 (by omega)) ?_
   rintro _ X61 ⟨w61,rfl,bc1,abP,aUa⟩
   obtain⟨x62,Vl⟩:=zG ps (w61.toNat)
   refine mW w61 1 hI.2.1 Vl (by omega) fun b62 aS6=>ki 0 [1] L (fun s _ hZ=>bh hI.2.1 aS6 hZ Vl)<|jd 9 [2,2,3]<|zR (.agg ⟨[.string nm,zI w15,zI w24,zI x62,.bool w26]⟩) [3] [0] X61 ⟨⟨_,_,_,_,_⟩,rfl,rfl,(by dsimp only;omega),.inr (hI.2.2 _ (zL Vl)),aUa⟩
  try simp only[zB] at h4
  refine jd 8 [2,3]<|zR (.agg ⟨[.string nm,zI w15,zI w24,zI (-1),.bool w26]⟩) [3] [0] X53 ⟨⟨_,_,_,_,_⟩,rfl,rfl,(by dsimp only;omega),.inl rfl,ao8⟩
 have wD:=h3
 replace wD:=of_decide_eq_false wD
 refine jd 13 [2,3]<|zR (.agg ⟨[.string nm,zI w15,zI w24,zI (-1),.bool w26]⟩) [3] [1] X26 ⟨⟨_,_,_,_,_⟩,rfl,rfl,(by dsimp only;omega),.inl rfl,aHw⟩
theorem Rs(hm:bB ro vm 1 cy ys)(hn:ys.length≤1000):dG zT 12 [vm] ro [] (fun r Y=>∃L,aw r 1 3 cy ys L∧Y=L):=by
 obtain⟨qma,qmb,qmo,qmc,rfl,qmk,qmh,qml⟩:=hm
 refine zE<|zD 6<|jn fun b3=>zD 1<|iK (sz:=1) (ps:=[]) (qs:=ys) (enc:=cy) (w:= .slice qma ys.length qmc) [0] [] [] (bC (b:=b3) (T:=3)) (fun s he _=>⟨qma,qmb,qmo,qmc,rfl,qmh,fun i p hp=>(qml i p hp).ext he⟩) (fun p _=>ai rfl) (by simp<;>omega) (fun v5 L5 Hv=>?_)
 rw[List.nil_append] at Hv
 obtain⟨va5,vc5,he5⟩:=Hv.form
 subst he5
 refine zD 3<|zR ((.slice va5 (ys).length vc5)) [] [0] L5 ⟨_,Hv,rfl⟩
theorem gV{ys:List aB}(hm:bB ro vm 5 eC ys)(hn:ys.length≤1000):dG zT 102 [vm] ro [] (fun r Y=>∃L,aw r 5 76 eC ys L∧Y=L):=by
 obtain⟨qma,qmb,qmo,qmc,rfl,qmk,qmh,qml⟩:=hm
 refine zE<|zD 6<|jn fun b3=>zD 1<|iK (sz:=5) (ps:=[]) (qs:=ys) (enc:=eC) (w:= .slice qma ys.length qmc) [0] [] [] (bC (b:=b3) (T:=76)) (fun s he _=>⟨qma,qmb,qmo,qmc,rfl,qmh,fun i p hp=>(qml i p hp).ext he⟩) (fun p _=>ai rfl) (by simp<;>omega) (fun v5 L5 Hv=>?_)
 rw[List.nil_append] at Hv
 obtain⟨va5,vc5,he5⟩:=Hv.form
 subst he5
 refine zD 3<|zR ((.slice va5 (ys).length vc5)) [] [0] L5 ⟨_,Hv,rfl⟩
theorem aEu{vf:Value}{x:bM}(hf:bB ro vf 3 mY fs)(hn:fs.length≤1000):du zT 39 [.agg ⟨[s0,s1,s2,t0,t1,ru,vb,va,zI gone,zI new,zI af,vf]⟩,.agg ⟨[zI x.a,zI x.b,.bool x.same]⟩] ro (.bool (DF fs x.a x.b)):=by
 obtain⟨gP,vY,vX,fP,rfl,AM,qQ,qP⟩:=hf
 refine zE<|zD 2<|jn fun b2=>jn fun b3=>zD 8<|dw [1,0,1,0,0] [] (fun(zz:Nat)=>[(2,zP b2),(3,zP b3),(5,zI (zz:Int))]) (fun zz=>[.b b3 (.cells ⟨[zI x.a,zI x.b,.bool x.same]⟩ 100 (0,0)),.b b2 (.cells ⟨[s0,s1,s2,t0,t1,ru,vb,va,zI gone,zI new,zI af,.slice gP fs.length fP]⟩ 38 (0,0))]) (fun zz=>zz≤fs.length∧DF fs x.a x.b=(fs.drop zz).any (fun y=>decide (y.a=x.a)&&decide (y.b=x.b))) (fun zz=>fs.length-zz) 0 ⟨by omega,rfl⟩ [0,1] ?_
 rintro k hI K1 bG rest
 refine jd 9 [1]<|zJ 10 ((k:Int) <(fs.length:Int)) (fun h1=>?_) fun h1=>?_
 ·
  refine jd 9 [1] ?_
  obtain⟨BZ,oX⟩:=zG fs k
  refine gX fP 3 qQ oX<|zD 1<|jl 0 (qP _ _ oX)<|jd 4 [0]<|js 9 (decide (BZ.a=x.a)) (fun h2=>?_) (fun h2=>?_)
  ·
   have k9:=h2
   replace k9:=of_decide_eq_true k9
   refine jd 3 [1] ?_
   obtain⟨MA,A6⟩:=zG fs k
   refine gX fP 3 qQ A6<|zD 1<|jl 1 (qP _ _ A6)<|jd 5 [0]<|zJ 32 (MA.b=x.b) (fun h3=>?_) fun h3=>?_
   ·
    refine zD 6<|zX (.bool true) ⟨by rw[hI.2,W6 oX];simp_all,rfl⟩
   refine zD 4<|ja ((k:Int)+1) (by omega)<|zD 2<|bF bG (k+1) ⟨by omega,by rw[hI.2,W6 oX];simp_all⟩ (by omega) [0,1] (Sub.refl _)
  have k9:=h2
  replace k9:=of_decide_eq_false k9
  refine zD 15<|ja ((k:Int)+1) (by omega)<|zD 2<|bF bG (k+1) ⟨by omega,by rw[hI.2,W6 oX];simp_all⟩ (by omega) [0,1] (Sub.refl _)
 refine zD 7<|zX (.bool false) ⟨by rw[hI.2,apR (by omega)],rfl⟩
theorem aUT{fa:Value}{uY Mu:List aB}(hN:Dn ro vd xs)(hD:bK vd xs d X)(hb:bB ro vb 5 eC uY)(ha:bB ro va 5 eC Mu)(hn:uY.length≤100∧Mu.length≤100):dG zT 38 [zP d,.agg ⟨[s0,s1,s2,t0,t1,ru,vb,va,zI gone,zI new,zI af,fa]⟩] ro X (fun r Y=>∃x:bM,r= .agg ⟨mY x⟩∧(0≤x.a∧(x.a <uY.length∨x.a=0))∧(0≤x.b∧(x.b <Mu.length∨x.b=0))∧bK vd xs d Y):=by
 obtain⟨mw,Qv,Qt,mo,rfl,Qu,O6,O5⟩:=hb
 obtain⟨lO,M9,M7,lH,rfl,M8,KH,KG⟩:=ha
 refine zC [.l X]<|zD 2<|jn fun b3=>jn fun b4=>jd 7 [1]<|ja ((uY.length:Int)-1) (by omega)<|jd 4 [1]<|ja ((Mu.length:Int)-1) (by omega)<|zD 1<|aS 5 fun BX B6 An=>jc (vs:=[zP d,zI ((uY.length:Int)-1)]) [2] (EZ hN hD (by omega)) ?_
 rintro _ X10 ⟨w10,rfl,ahm,sg,Wh⟩
 refine gx An [[2],[2]]<|aS 11 fun As AA zi=>jc (vs:=[zP d,zI ((Mu.length:Int)-1)]) [0] (EZ hN Wh (by omega)) ?_
 rintro _ X16 ⟨w16,rfl,aEZ,oX,ai5⟩
 refine gx zi [[2],[2]]<|aS 13 fun oP oR nK=>jc (vs:=[zP d,zI 2]) [0] (tB hN ai5 (by omega)) ?_
 rintro _ X18 ⟨w18,rfl,Sq⟩
 refine gx nK [[2],[2]]<|zD 1<|aS 15 fun qU qV pK=>jd 1 [1]<|fW pK<|zD 2<|zR (.agg ⟨[zI w10,zI w16,.bool w18]⟩) [1] [0] X18 ⟨⟨_,_,_⟩,rfl,(by dsimp only;omega),(by dsimp only;omega),Sq⟩
inductive de{α β:Type}(R:α→β→Prop):List α→List β→Prop
 |nil:de R [] []
 |cons {a:α} {b:β} {l:List α} {m:List β}:R a b→de R l m→de R (a::l) (b::m)
theorem de.snoc{R:α→β→Prop}{l:List α}{m:List β}{a:α}{b:β}(h:de R l m)(k:R a b):de R (l++[a]) (m++[b]):=by
 induction h with
 |nil=>exact .cons k .nil
 |cons h1 _ ih=>exact .cons h1 ih
theorem de.len{R:α→β→Prop}{l:List α}{m:List β}(h:de R l m):l.length=m.length:=by
 induction h with
 |nil=>rfl
 |cons _ _ ih=>simp[ih]
theorem de.get{R:α→β→Prop}{l:List α}{m:List β}(h:de R l m){a:α}(ha:l[i]?=some a):∃b,m[i]?=some b∧R a b:=by
 induction h generalizing i with
 |nil=>simp at ha
 |cons h1 _ ih=>
  cases i with
  |zero=>simp at ha;subst ha;exact⟨_,rfl,h1⟩
  |succ i=>exact ih (by simpa using ha)
theorem de.imp{R S:α→β→Prop}{l:List α}{m:List β}(h:de R l m)(k:∀a b,R a b→S a b):de S l m:=by
 induction h with
 |nil=>exact .nil
 |cons h1 _ ih=>exact .cons (k _ _ h1) ih
structure cA where
 word:ByteArray
 cls:Int
 ou:Int
 dV:List Int
variable {hd:List cA}
def dq(h:bx)(x:cA):Prop:=h.word=x.word∧h.cls=x.cls∧h.ou=x.ou
def rM(ro:Nat→Option Obj)(h:bx)(x:cA):Prop:=h.word=x.word∧h.cls=x.cls∧h.ou=x.ou∧bB ro h.dV 1 cy x.dV
def jh(ro:Nat→Option Obj)(vc vh:Value)(cs:List bN)(hv:List bx)(hd:List cA):Prop:=bB ro vc 2 pe cs∧bB ro vh 4 mf hv∧de (rM ro) hv hd
def gH(nc nh:Nat)(i:Nat)(x:cA):Prop:=(-1≤x.cls∧x.cls <nc)∧(-1≤x.ou∧x.ou <nh∧x.ou≠i)∧(x.dV.length≤nh∧x.dV.Pairwise (· < ·)∧∀y∈x.dV,0≤y∧y <nh∧y≠i)∧(x.ou≠ -1→x.cls= -1∧x.dV=[])∧(x.ou= -1→x.cls= -1→x.dV≠[])
structure xb(cs:List bN)(hd:List cA):Prop where
 nc:0 <cs.length∧cs.length≤3
 nh:hd.length≤4
 cls:∀(i:Nat) (c:bN),cs[i]?=some c→c.name∈nB∧ -1≤c.under∧c.under <i
 names:(cs.map (·.name)).Pairwise fun a b=>cS a b=false
 Bc:∀(i:Nat) (x:cA),hd[i]?=some x→x.word∈pz∧gH cs.length hd.length i x
 words:(hd.map (·.word)).Pairwise fun a b=>cS a b=false∧strLt b a=false
def nZ(names:List Int)(cs:List bN):Prop:=∀(i:Nat) (c:bN),cs[i]?=some c→(∃y,names[i]?=some y∧nB[y.toNat]?=some c.name)∧ -1≤c.under∧c.under <i
theorem Sw{l:List α}{x y:α}(h:(l++[x])[i]?=some y):l[i]?=some y∨(i=l.length∧y=x):=by
 rcases Nat.lt_trichotomy i l.length with h1|h1|h1
 ·rw[List.getElem?_append_left h1] at h;exact .inl h
 ·subst h1;simp at h;exact .inr ⟨rfl,h.symm⟩
 rw[List.getElem?_eq_none (by simp;omega)] at h;cases h
theorem nZ.snoc{names:List Int}(h:nZ names cs){y u:Int}(h1:names[cs.length]?=some y) (h2:nB[y.toNat]?=some nm) (h3: -1≤u∧u <cs.length):nZ names (cs++[⟨nm,u⟩]):=fun i c hc=>by
 rcases Sw hc with h4| ⟨rfl,rfl⟩
 ·exact h i c h4
 exact⟨⟨y,h1,h2⟩,h3⟩
def mS(ws:List Int)(nc:Nat)(hv:List bx)(hd:List cA)(Z:Cells)(i:Nat):Prop:=
 (∀ro,Knows ro Z→de (rM ro) hv hd)∧hd.length=i∧hv.length=i∧(∀(k:Nat) (x:cA),hd[k]?=some x→(∃w,ws[k]?=some w∧pz[w.toNat]?=some x.word)∧gH nc ws.length k x)∧de dq hv hd
theorem mS.snoc{ws:List Int}{hv:List bx}{Z A:Cells}(h:mS ws nc hv hd Z i){hV:bx}{x:cA}{w:Int}(h0:dq hV x)(h1:∀ro,Knows ro A→rM ro hV x)(h2:ws[i]?=some w) (h3:pz[w.toNat]?=some x.word) (h4:gH nc ws.length i x):
 mS ws nc (hv++[hV]) (hd++[x]) (A++Z) (i+1):=by
 obtain⟨g1,g2,g3,g4,g5⟩:=h
 refine⟨fun ro hk=>(g1 ro hk.right).snoc (h1 ro hk.left),by simp[g2],by simp[g3],fun k y hy=>?_,g5.snoc h0⟩
 rcases Sw hy with h5| ⟨rfl,rfl⟩
 ·exact g4 k y h5
 rw[g2];exact⟨⟨w,h2,h3⟩,h4⟩
theorem anx{i n w:Int}(hi:0≤i∧i <n)(hw:0≤w∧w≤n-2):0≤Int.tmod (i+1+w) n∧Int.tmod (i+1+w) n <n∧Int.tmod (i+1+w) n≠i:=by
 have h1:=Int.tmod_nonneg n (show 0≤i+1+w by omega)
 have h2:=Int.tmod_lt_of_pos (i+1+w) (show 0 <n by omega)
 refine⟨h1,h2,fun h=>?_⟩
 have h3:=Int.tmod_add_mul_tdiv (i+1+w) n
 rw[h] at h3
 have h4:n*(i+1+w).tdiv n=1+w:=by omega
 rcases Int.lt_trichotomy ((i+1+w).tdiv n) 0 with h5|h5|h5
 ·have:n*(i+1+w).tdiv n≤n* -1:=Int.mul_le_mul_of_nonneg_left (by omega) (by omega)
  omega
 ·rw[h5] at h4;omega
 have:n*1≤n*(i+1+w).tdiv n:=Int.mul_le_mul_of_nonneg_left (by omega) (by omega)
 omega
theorem DG:nB.Pairwise fun a b=>cS a b=false:=by simp only[AB];decide
theorem WQ:pz.Pairwise fun a b=>cS a b=false∧strLt b a=false:=by simp only[AB,P8];decide
def lL(i:Nat)(k:Nat)(al:List Int):Prop:=al.length≤k∧al.Pairwise (· < ·)∧∀y∈al,0≤y∧y <k∧y≠i
theorem qj{l:List α}{R:α→α→Prop}(h:l.Pairwise R){j:Nat}{a b:α}(Jb:i <j)(ha:l[i]?=some a) (hb:l[j]?=some b):R a b:=by
 obtain⟨h1,rfl⟩:=List.getElem?_eq_some_iff.1 ha
 obtain⟨h2,rfl⟩:=List.getElem?_eq_some_iff.1 hb
 exact List.pairwise_iff_getElem.1 h i j h1 h2 Jb
theorem afk{l:List α}{f:α→β}{R:β→β→Prop}(h:∀(i j:Nat) (a b:α),i <j→l[i]?=some a→l[j]?=some b→R (f a) (f b)):(l.map f).Pairwise R:=by
 rw[List.pairwise_map,List.pairwise_iff_getElem]
 exact fun i j hi hj Jb=>h i j _ _ Jb (List.getElem?_eq_getElem hi) (List.getElem?_eq_getElem hj)
theorem Uj{a b:ByteArray}(h:cS a b=false):cS b a=false:=by
 cases h2:cS b a with
 |false=>rfl
 |true=>rw[B7.1 h2,B7.2 rfl] at h;cases h
theorem aaB{Nh kK:List Int}{hv:List bx}{Z:Cells}(hc:nZ Nh cs)(hp:Nh.Perm (cd nB.length))(hn:0 <cs.length∧cs.length≤3)(hh:mS kK cs.length hv hd Z i)(hi:i=kK.length)(h4:kK.length≤4)(hs:kK.Pairwise (· < ·))(hm:∀x∈kK,0≤x∧x <pz.length):xb cs hd:=by
 obtain⟨g1,g2,g3,g4,_⟩:=hh
 have iX:∀y∈Nh,0≤y∧y <nB.length:=fun y hy=>nD (hp.mem_iff.1 hy)
 have mb:Nh.Pairwise (· ≠·):=(hp.pairwise_iff (fun h=>Ne.symm h)).2 ((rR _).imp fun h=>by omega)
 refine⟨hn,by omega,fun k c hk=>?_,afk fun a b x y zg hx hy=>?_,fun k x hk=>?_,afk fun a b x y zg hx hy=>?_⟩
 ·obtain⟨⟨y,h1,h2⟩,h3⟩:=hc k c hk
  exact⟨zL h2,h3⟩
 ·obtain⟨⟨p,p1,p2⟩,_⟩:=hc a x hx
  obtain⟨⟨q,q1,q2⟩,_⟩:=hc b y hy
  have Zb:=qj mb zg p1 q1
  have hp0:=iX p (zL p1)
  have Za:=iX q (zL q1)
  rcases Nat.lt_trichotomy p.toNat q.toNat with h|h|h
  ·exact qj DG h p2 q2
  ·exact absurd (show p=q by omega) Zb
  exact Uj (qj DG h q2 p2)
 ·obtain⟨⟨w,h1,h2⟩,h3⟩:=g4 k x hk
  have:hd.length=kK.length:=by omega
  rw[this]
  exact⟨zL h2,h3⟩
 obtain⟨⟨p,p1,p2⟩,_⟩:=g4 a x hx
 obtain⟨⟨q,q1,q2⟩,_⟩:=g4 b y hy
 have Zb:=qj hs zg p1 q1
 have hp0:=hm p (zL p1)
 exact qj WQ (show p.toNat <q.toNat by omega) p2 q2
theorem lL.step(h:lL i k al):lL i (k+1) al:=⟨by have:=h.1;omega,h.2.1,fun y hy=>by have:=h.2.2 y hy;omega⟩
theorem lL.snoc(h:lL i k al)(hk:(k:Int)≠i):lL i (k+1) (al++[(k:Int)]):=by
 refine⟨by have:=h.1;simp;omega,List.pairwise_append.2 ⟨h.2.1,List.pairwise_singleton _ _,fun a ha b hb=>?_⟩,qL (fun y hy=>by have:=h.2.2 y hy;omega) (by omega)⟩
 rw[List.mem_singleton] at hb;subst hb
 exact(h.2.2 a ha).2.1
theorem aim{r:Int}{w:ByteArray}(h:0≤r∧r <nh∧r≠i)(h4:0 <nc):gH nc nh i ⟨w,-1,r,[]⟩:=
 have h1:=h.1
 have h2:=h.2.1
 have h3:=h.2.2
 ⟨⟨by simp,by simp<;>omega⟩,⟨by simp<;>omega,by simpa using h2,by simpa using h3⟩,⟨by simp,by simp,by simp⟩,fun _=>⟨rfl,rfl⟩,fun h=>by simp at h;omega⟩
theorem LG{c:Int}{w:ByteArray}(hc:0≤c∧c <nc)(h:lL i k al)(hk:k≤nh)(hi:i <nh):gH nc nh i ⟨w,c,-1,al⟩:=
 ⟨⟨by simp<;>omega,by simpa using hc.2⟩,⟨by simp,by simp<;>omega,by simp<;>omega⟩,⟨by have:=h.1;simp<;>omega,h.2.1,fun y hy=>by have:=h.2.2 y hy;simp<;>omega⟩,fun hh=>by simp at hh,fun _ hh=>by simp at hh;omega⟩
theorem ain{w:ByteArray}(h:lL i k al)(hk:k≤nh)(hi:i <nh)(dI:(al.length:Int)>0):gH nc nh i ⟨w,-1,-1,al⟩:=
 ⟨⟨by simp,by simp<;>omega⟩,⟨by simp,by simp<;>omega,by simp<;>omega⟩,⟨by have:=h.1;simp<;>omega,h.2.1,fun y hy=>by have:=h.2.2 y hy;simp<;>omega⟩,fun hh=>by simp at hh,fun _ _ hh=>by simp at hh;subst hh;simp at dI⟩
set_option maxHeartbeats 1000000 in
theorem apv (hN:Dn ro vd xs) (hD:bK vd xs d X):dG zT 30 [zP d,zI 3,zI 4] ro X (fun r Y=>∃(cs:List bN) (hv:List bx) (hd:List cA) (vc vh:Value) (Z X':Cells),r= .agg ⟨[vc,vh]⟩∧xb cs hd∧de dq hv hd∧(∀aD,Knows aD Z→jh aD vc vh cs hv hd)∧Y=Z++X'∧bK vd xs d X'):=by
 refine zC [.l X]<|zD 2<|jn fun b6=>zD 3<|jn fun b7=>zD 4<|jc [] (agM) ?_
 rintro v16 L16 ⟨_,aox,rfl⟩
 refine BQ aox<|jc (vs:=[zP d,zI (nB.length:Int)]) [3] (akl hN hD (by first|omega|decide)) ?_
 rintro v18 _ ⟨Nh,L18,X18,abW,RP,rfl,Sq⟩
 refine jg 0 [.l L18,.l X18]<|zD 7<|jc (vs:=[zP d,zI 1,zI 3]) [1] (Bu hN Sq (by omega) (by omega)) ?_
 rintro _ X21 ⟨w21,rfl,aop,ko,aUk⟩
 refine zD 3<|nI<|dw [1,1,1,0,1,0,0] [] (fun(zz:Int×Value×Cells×(List bN)×Cells)=>[(0,zP d),(2,zI 4),(6,zP b6),(7,zP b7),(8,v18),(9,zI zz.1)]) (fun zz=>[.l zz.2.2.1,.l zz.2.2.2.2,.b b7 (.cells ⟨[zz.2.1,zS]⟩ 33 (0,0)),.l L18,.b b6 (.cells ⟨[zS,zS]⟩ 33 (0,0))]) (fun zz=>(0≤zz.1∧zz.2.2.2.1.length+zz.1=w21)∧aw zz.2.1 2 170 pe zz.2.2.2.1 zz.2.2.1∧nZ Nh zz.2.2.2.1∧bK vd xs d zz.2.2.2.2) (fun zz=>zz.1.toNat) (⟨w21,zS,[],[],X21⟩) ⟨by simp only[List.length_nil];omega,aw.nil _ _ _,(fun i c h=>by simp at h),aUk⟩ [0,1,4,2,5] ?_
 rintro⟨j,vC,LC,cs,X⟩ hI K1 bG rest
 dsimp only at hI
 have hlen:Nh.length=9:=by rw[RP.length_eq,gh];rfl
 refine zD 6<|zJ 23 (j>0) (fun h1=>?_) fun h1=>?_
 ·
  refine jd 10 [2,2]<|BQ hI.2.1 ?_
  obtain⟨x33,ahd⟩:=zG Nh (cs.length)
  refine Af 1 abW ahd fun b33 aTf=>ki 0 [3] L18 (fun s _ hZ=>bh abW aTf hZ ahd)<|jd 3 [2]<|BQ hI.2.1<|ja ((cs.length:Int)-1) (by omega)<|aS 2 fun As AA zi=>jc [] (agM) ?_
  rintro v28 L28 ⟨_,VA,rfl⟩
  refine eG zi (zN 1 5) ?_
  obtain⟨x35,Vo⟩:=zG nB (x33.toNat) (by have:=nD (RP.mem_iff.1 (zL ahd));omega)
  refine mW x33 1 VA Vo (Int.toNat_of_nonneg (show 0≤x33∧x33 <((nB).length:Int) from (nD (RP.mem_iff.1 (zL ahd)))).1).symm fun b35 aTd=>ki 0 [0] L28 (fun s _ hZ=>bh VA aTd hZ Vo)<|aS 16 fun oP oR nK=>jc (vs:=[zP d,zI (-1),zI ((cs.length:Int)-1)]) [2] (Bu hN hI.2.2.2 (by omega) (by omega)) ?_
  rintro _ X42 ⟨w42,rfl,bc3,Vn,aUe⟩
  refine gx nK [[1],[3],[4],[3],[3]]<|zD 1<|aS 18 fun qU qV pK=>jn fun BW=>eG pK (zN 1 6)<|aS 19 fun yz yF zh=>iK (sz:=2) (ps:=cs) (qs:=[(⟨x35,w42⟩:bN)]) (enc:=pe) (w:= .slice (some ⟨BW,0,none⟩) 1 1) [3] [0] [(BW,.cells ⟨([(⟨x35,w42⟩:bN)].map pe).flatten⟩ 170 (0,0))] (hI.2.1) (fun s _ hZ=>bV [(⟨x35,w42⟩:bN)] (hZ _ (.head _)) (by intro p hp;rfl)) (fun p _=>ai rfl) (by simp<;>omega) (fun v45 L45 ahI=>?_)
  obtain⟨atl,atb,axB⟩:=ahI.form
  subst axB
  refine gx zh [[3],[4],[5],[4]]<|zD 1<|aS 21 fun aap aaD V5=>jd 1 [4]<|fW V5<|zD 3<|ja (j-1) (by omega)<|zD 2<|bF bG (⟨j-1,(.slice atl ((cs++[(⟨x35,w42⟩:bN)])).length atb),L45,(cs++[(⟨x35,w42⟩:bN)]),X42⟩) ⟨by simp only[zM];omega,ahI,nZ.snoc hI.2.2.1 ahd Vo (by omega),aUe⟩ (by omega) [0,2,4,5,6] (Sub.refl _)
 refine zD 5<|jc [] (ag4) ?_
 rintro v48 L48 ⟨_,aRh,rfl⟩
 refine BQ aRh<|zD 2<|jc (vs:=[zP d,zI 4]) [2] (EZ hN hI.2.2.2 (by omega)) ?_
 rintro _ X52 ⟨w52,rfl,bc2,th,aUd⟩
 refine jc (vs:=[zP d,zI (pz.length:Int),zI w52]) [0] (aIt hN aUd (by first|omega|decide)) ?_
 rintro v53 _ ⟨kK,L53,X53,awM,bd8,wA,ah3,rfl,ao8⟩
 refine jg 0 [.l L53,.l X53]<|zD 5<|BQ awM<|zD 8<|nI<|nI<|dw [1,1,1,1,1,1,0,1,0,0] [] (fun(zz:Nat×Value×Cells×(List bx)×(List cA)×Cells×Cells)=>[(0,zP d),(6,zP b6),(7,zP b7),(10,v53),(11,zI (kK.length:Int)),(12,zI (zz.1:Int))]) (fun zz=>[.l zz.2.2.1,.l zz.2.2.2.2.2.1,.l zz.2.2.2.2.2.2,.l LC,.b b7 (.cells ⟨[vC,zz.2.1]⟩ 33 (0,0)),.l L53,.b b6 (.cells ⟨[zS,zS]⟩ 33 (0,0))]) (fun zz=>zz.1≤kK.length∧aw zz.2.1 4 173 mf zz.2.2.2.1 zz.2.2.1∧mS kK cs.length zz.2.2.2.1 zz.2.2.2.2.1 zz.2.2.2.2.2.1 zz.1∧bK vd xs d zz.2.2.2.2.2.2) (fun zz=>kK.length-zz.1) (⟨0,zS,[],[],[],[],X53⟩) ⟨by omega,aw.nil _ _ _,⟨fun _ _=> .nil,rfl,rfl,(fun k x h=>by simp at h),.nil⟩,ao8⟩ [1,0,3,5,6,2,8] ?_
 rintro⟨i,vH,LH,hv,hd,Z,X⟩ hJ K7 hK7 rest
 dsimp only at hJ
 have hll:=hJ.2.2.1.2.2.1
 have TG:kK.length≤4:=by omega
 have iM:cs.length≤3:=by omega
 refine zD 7<|zJ 58 ((i:Int) <(kK.length:Int)) (fun h7=>?_) fun h7=>?_
 ·
  refine zD 5<|EG [1,1,1,1,1,1,0,1,0,0,1,0,0,1] [K7] (fun(zz:Nat×Int×Int×ByteArray×Cells)=>[(0,zP d),(6,zP b6),(7,zP b7),(10,v53),(11,zI (kK.length:Int)),(12,zI (i:Int)),(13,zP zz.1)]) (fun zz=>[.b zz.1 (.cells ⟨[.string zz.2.2.2.1,zI zz.2.1,zI (-1),zS]⟩ 173 (0,0)),.l LH,.l Z,.l zz.2.2.2.2,.l LC,.b b7 (.cells ⟨[vC,vH]⟩ 33 (0,0)),.l L53,.b b6 (.cells ⟨[zS,zS]⟩ 33 (0,0))]) (fun zz=>kK[i]?=some zz.2.2.1∧pz[zz.2.2.1.toNat]?=some zz.2.2.2.1∧(0≤zz.2.1∧zz.2.1 <cs.length)∧bK vd xs d zz.2.2.2.2) ?_ (fun K8 hK8=>?_)
  ·
   rintro⟨vz,w,y,x,X⟩ TS rest
   dsimp only at TS
   refine zD 2<|EG [1,1,1,1,1,1,0,1,0,0,1,0,0,1,0,1] [K7] (fun(zz:Bool×Cells)=>[(0,zP d),(6,zP b6),(7,zP b7),(10,v53),(11,zI (kK.length:Int)),(12,zI (i:Int)),(13,zP vz),(80,.bool zz.1)]) (fun zz=>[.b vz (.cells ⟨[.string x,zI w,zI (-1),zS]⟩ 173 (0,0)),.l LH,.l Z,.l zz.2,.l LC,.b b7 (.cells ⟨[vC,vH]⟩ 33 (0,0)),.l L53,.b b6 (.cells ⟨[zS,zS]⟩ 33 (0,0))]) (fun zz=>(zz.1=true→1 <kK.length)∧bK vd xs d zz.2) ?_ (fun K9 hK9=>?_)
   ·
    rintro⟨q,X⟩ hJ3 rest
    dsimp only at hJ3
    refine js 80 q (fun h8=>?_) (fun h8=>?_)
    ·
     subst h8
     have hgt:=hJ3.1 rfl
     refine zD 4<|ja ((i:Int)+1) (by omega)<|zD 2<|ja ((kK.length:Int)-2) (by omega)<|zD 2<|aS 5 fun FI Ge wC=>jc (vs:=[zP d,zI ((kK.length:Int)-2)]) [3] (EZ hN hJ3.2 (by omega)) ?_
     rintro _ X86 ⟨w86,rfl,bc0,bcV,aT7⟩
     refine gx wC []<|ja (((i:Int)+1)+w86) (by omega)<|jrm (k:= .i64) (a:=(((i:Int)+1)+w86)) (b:=(kK.length:Int)) 3 (by omega)<|aS 10 fun FH Gd zk=>jd 1 [1]<|gx zk []<|zD 1<|aS 12 fun Pv PX C7=>jd 1 [1]<|fW C7<|jd 6 [5,1]<|jn fun b95=>iK (sz:=4) (ps:=hv) (qs:=[(⟨x,(-1),(Int.tmod (((i:Int)+1)+w86) (kK.length:Int)),zS⟩:bx)]) (enc:=mf) (w:= .slice (some ⟨b95,0,none⟩) 1 1) [3] [0] [(b95,.cells ⟨([(⟨x,(-1),(Int.tmod (((i:Int)+1)+w86) (kK.length:Int)),zS⟩:bx)].map mf).flatten⟩ 173 (0,0))] (hJ.2.1) (fun s _ hZ=>bV [(⟨x,(-1),(Int.tmod (((i:Int)+1)+w86) (kK.length:Int)),zS⟩:bx)] (hZ _ (.head _)) (by intro p hp;rfl)) (by intro p hp;rw[List.mem_singleton] at hp;subst hp;exact ai rfl) (by simp<;>omega) (fun v96 L96 ahC=>?_)
     obtain⟨aMg,aLW,aSk⟩:=ahC.form
     subst aSk
     refine jd 6 [6]<|ja ((i:Int)+1) (by omega)<|zD 2<|bF hK7 (⟨i+1,(.slice aMg ((hv++[(⟨x,(-1),(Int.tmod (((i:Int)+1)+w86) (kK.length:Int)),zS⟩:bx)])).length aLW),L96,(hv++[(⟨x,(-1),(Int.tmod (((i:Int)+1)+w86) (kK.length:Int)),zS⟩:bx)]),_,Z,X86⟩) ⟨by omega,ahC,(by have:=mS.snoc (A:=[]) hJ.2.2.1 (h0:=⟨rfl,rfl,rfl⟩) (hV:=⟨x,-1,(Int.tmod (((i:Int)+1)+w86) (kK.length:Int)),zS⟩) (x:=⟨x,-1,(Int.tmod (((i:Int)+1)+w86) (kK.length:Int)),[]⟩) (fun ro _=>⟨rfl,rfl,rfl,bB.nil _ _ _ _ _⟩) TS.1 TS.2.1 (aim (anx ⟨by omega,by omega⟩ ⟨by omega,by omega⟩) (by omega));simpa only[List.nil_append] using this),aT7⟩ (by omega) [0,4,2,5,6,7,8] (Sub.refl _)
    subst h8
    refine zD 8<|nI<|dw [1,1,1,1,1,1,0,1,0,0,1,0,0,1,1,0,1,0,0] [K7] (fun(zz:Nat×Value×Cells×(List Int)×Cells)=>[(0,zP d),(6,zP b6),(7,zP b7),(10,v53),(11,zI (kK.length:Int)),(12,zI (i:Int)),(13,zP vz),(14,zI (zz.1:Int))]) (fun zz=>[.l zz.2.2.1,.l zz.2.2.2.2,.b vz (.cells ⟨[.string x,zI w,zI (-1),zz.2.1]⟩ 173 (0,0)),.l LH,.l Z,.l LC,.b b7 (.cells ⟨[vC,vH]⟩ 33 (0,0)),.l L53,.b b6 (.cells ⟨[zS,zS]⟩ 33 (0,0))]) (fun zz=>(zz.1≤kK.length∧zz.2.2.2.1.length≤zz.1)∧aw zz.2.1 1 3 cy zz.2.2.2.1 zz.2.2.1∧lL i zz.1 zz.2.2.2.1∧bK vd xs d zz.2.2.2.2) (fun zz=>kK.length-zz.1) (⟨0,zS,[],[],X⟩) ⟨by simp,aw.nil _ _ _,⟨by simp,by simp,by simp⟩,hJ3.2⟩ [0,4,1,2,3,5,6,7,8] ?_
    rintro⟨k,vA,LA,al,X⟩ hK K13 N5 rest
    dsimp only at hK
    obtain⟨qa,qc,rfl⟩:=hK.2.1.form
    refine zD 7<|zJ 100 ((k:Int) <(kK.length:Int)) (fun C8=>?_) fun C8=>?_
    ·
     refine zD 10<|js 106 (!decide ((k:Int)=(i:Int))) (fun xE=>?_) (fun xE=>?_)
     ·
      have ajv:=xE
      replace ajv:=of_decide_eq_false (by simpa using ajv)
      refine zD 1<|jc (vs:=[zP d,zI 4]) [1] (tB hN hK.2.2.2 (by omega)) ?_
      rintro _ aJi ⟨aLU,rfl,ar6⟩
      refine zD 2<|js 109 aLU (fun h14=>?_) (fun h14=>?_)
      ·
       subst h14
       refine jd 5 [2]<|jn fun aIZ=>iK (sz:=1) (ps:=al) (qs:=[(k:Int)]) (enc:=cy) (w:= .slice (some ⟨aIZ,0,none⟩) 1 1) [2] [0] [(aIZ,.cells ⟨([(k:Int)].map cy).flatten⟩ 3 (0,0))] (hK.2.1) (fun s _ hZ=>bV [(k:Int)] (hZ _ (.head _)) (by intro p hp;rfl)) (fun p _=>ai rfl) (by simp<;>omega) (fun baH aWd Zf=>?_)
       obtain⟨aBr,aBk,aGD⟩:=Zf.form
       subst aGD
       refine jd 5 [3]<|ja ((k:Int)+1) (by omega)<|zD 2<|bF N5 (⟨k+1,(.slice aBr ((al++[(k:Int)])).length aBk),aWd,(al++[(k:Int)]),aJi⟩) ⟨by simp only[zM];omega,Zf,lL.snoc hK.2.2.1 (by omega),ar6⟩ (by omega) [0,2,3,4,5,6,7,8,9] (Sub.refl _)
      subst h14
      refine zD 4<|ja ((k:Int)+1) (by omega)<|zD 2<|bF N5 (⟨k+1,(.slice qa al.length qc),LA,al,aJi⟩) ⟨by dsimp only;omega,hK.2.1,lL.step hK.2.2.1,ar6⟩ (by omega) [1,0,2,3,4,5,6,7,8] (Sub.refl _)
     have ajv:=xE
     replace ajv:=of_decide_eq_true (by simpa using ajv)
     refine zD 8<|ja ((k:Int)+1) (by omega)<|zD 2<|bF N5 (⟨k+1,(.slice qa al.length qc),LA,al,X⟩) ⟨by dsimp only;omega,hK.2.1,lL.step hK.2.2.1,hK.2.2.2⟩ (by omega) (zN 0 9) (Sub.refl _)
    refine jd 10 [2]<|js 120 (decide ((al.length:Int)>0)) (fun N8=>?_) (fun N8=>?_)
    ·
     have HX:=N8
     replace HX:=of_decide_eq_true HX
     refine zD 1<|jc (vs:=[zP d,zI 4]) [1] (tB hN hK.2.2.2 (by omega)) ?_
     rintro _ aJh ⟨aLR,rfl,ar5⟩
     refine zD 2<|js 123 aLR (fun JY=>?_) (fun JY=>?_)
     ·
      subst JY
      refine jd 9 [2,6,2]<|jn fun OI=>iK (sz:=4) (ps:=hv) (qs:=[(⟨x,(-1),-1,(.slice qa al.length qc)⟩:bx)]) (enc:=mf) (w:= .slice (some ⟨OI,0,none⟩) 1 1) [4] [0] [(OI,.cells ⟨([(⟨x,(-1),-1,(.slice qa al.length qc)⟩:bx)].map mf).flatten⟩ 173 (0,0))] (hJ.2.1) (fun s _ hZ=>bV [(⟨x,(-1),-1,(.slice qa al.length qc)⟩:bx)] (hZ _ (.head _)) (by intro p hp;rfl)) (by intro p hp;rw[List.mem_singleton] at hp;subst hp;exact ai rfl) (by simp<;>omega) (fun aBA ala ry=>?_)
      obtain⟨PH,PE,Si⟩:=ry.form
      subst Si
      refine jd 5 [7]<|ja ((i:Int)+1) (by omega)<|zD 2<|JG hK7 (⟨i+1,(.slice PH ((hv++[(⟨x,(-1),-1,(.slice qa al.length qc)⟩:bx)])).length PE),ala,(hv++[(⟨x,(-1),-1,(.slice qa al.length qc)⟩:bx)]),_,LA++Z,aJh⟩) ⟨by omega,ry,mS.snoc (A:=LA) hJ.2.2.1 (h0:=⟨rfl,rfl,rfl⟩) (x:=⟨x,_,-1,al⟩) (fun ro hk=>⟨rfl,rfl,rfl,hK.2.1.jF hk⟩) TS.1 TS.2.1 (ain hK.2.2.1 (by omega) (by omega) (by assumption)),ar5⟩ (by omega) [[0],[3,5],[2],[6],[7],[8],[9]] (Sub.refl _)
     subst JY
     refine jd 6 [6,2]<|jn fun OI=>iK (sz:=4) (ps:=hv) (qs:=[(⟨x,w,-1,(.slice qa al.length qc)⟩:bx)]) (enc:=mf) (w:= .slice (some ⟨OI,0,none⟩) 1 1) [4] [0] [(OI,.cells ⟨([(⟨x,w,-1,(.slice qa al.length qc)⟩:bx)].map mf).flatten⟩ 173 (0,0))] (hJ.2.1) (fun s _ hZ=>bV [(⟨x,w,-1,(.slice qa al.length qc)⟩:bx)] (hZ _ (.head _)) (by intro p hp;rfl)) (by intro p hp;rw[List.mem_singleton] at hp;subst hp;exact ai rfl) (by simp<;>omega) (fun aBA ala ry=>?_)
     obtain⟨PH,PE,Si⟩:=ry.form
     subst Si
     refine jd 5 [7]<|ja ((i:Int)+1) (by omega)<|zD 2<|JG hK7 (⟨i+1,(.slice PH ((hv++[(⟨x,w,-1,(.slice qa al.length qc)⟩:bx)])).length PE),ala,(hv++[(⟨x,w,-1,(.slice qa al.length qc)⟩:bx)]),_,LA++Z,aJh⟩) ⟨by omega,ry,mS.snoc (A:=LA) hJ.2.2.1 (h0:=⟨rfl,rfl,rfl⟩) (x:=⟨x,_,-1,al⟩) (fun ro hk=>⟨rfl,rfl,rfl,hK.2.1.jF hk⟩) TS.1 TS.2.1 (LG (by omega) hK.2.2.1 (by omega) (by omega)),ar5⟩ (by omega) [[0],[3,5],[2],[6],[7],[8],[9]] (Sub.refl _)
    have HX:=N8
    replace HX:=of_decide_eq_false HX
    refine jd 10 [6,2]<|jn fun OI=>iK (sz:=4) (ps:=hv) (qs:=[(⟨x,w,-1,(.slice qa al.length qc)⟩:bx)]) (enc:=mf) (w:= .slice (some ⟨OI,0,none⟩) 1 1) [4] [0] [(OI,.cells ⟨([(⟨x,w,-1,(.slice qa al.length qc)⟩:bx)].map mf).flatten⟩ 173 (0,0))] (hJ.2.1) (fun s _ hZ=>bV [(⟨x,w,-1,(.slice qa al.length qc)⟩:bx)] (hZ _ (.head _)) (by intro p hp;rfl)) (by intro p hp;rw[List.mem_singleton] at hp;subst hp;exact ai rfl) (by simp<;>omega) (fun aBA ala ry=>?_)
    obtain⟨PH,PE,Si⟩:=ry.form
    subst Si
    refine jd 5 [7]<|ja ((i:Int)+1) (by omega)<|zD 2<|JG hK7 (⟨i+1,(.slice PH ((hv++[(⟨x,w,-1,(.slice qa al.length qc)⟩:bx)])).length PE),ala,(hv++[(⟨x,w,-1,(.slice qa al.length qc)⟩:bx)]),_,LA++Z,X⟩) ⟨by omega,ry,mS.snoc (A:=LA) hJ.2.2.1 (h0:=⟨rfl,rfl,rfl⟩) (x:=⟨x,_,-1,al⟩) (fun ro hk=>⟨rfl,rfl,rfl,hK.2.1.jF hk⟩) TS.1 TS.2.1 (LG (by omega) hK.2.2.1 (by omega) (by omega)),hK.2.2.2⟩ (by omega) [[0],[2,5],[3],[6],[7],[8],[9]] (Sub.refl _)
   refine zD 4<|js 77 (decide ((kK.length:Int)>1)) (fun h17=>?_) (fun h17=>?_)
   ·
    have wE:=h17
    replace wE:=of_decide_eq_true wE
    refine zD 1<|jc (vs:=[zP d,zI 3]) [3] (tB hN TS.2.2.2 (by omega)) ?_
    rintro _ X79 ⟨w79,rfl,aT9⟩
    refine zD 2<|bF hK9 ⟨w79,X79⟩ ⟨fun _=>by omega,aT9⟩ Nat.zero_lt_one [1,2,3,0,4,5,6,7] (Sub.refl _)
   have wE:=h17
   replace wE:=of_decide_eq_false wE
   refine zD 4<|bF hK9 ⟨false,X⟩ ⟨(fun h=>by cases h),TS.2.2.2⟩ Nat.zero_lt_one (zN 0 8) (Sub.refl _)
  refine zD 3 ?_
  obtain⟨x64,NI⟩:=zG kK i
  refine Af 1 awM NI fun b64 aS5=>ki 0 [5] L53 (fun s _ hZ=>bh awM aS5 hZ NI)<|jd 3 [4]<|BQ hI.2.1<|ja ((cs.length:Int)-1) (by omega)<|I5 [0,14] ⟨fun z14 t15 EU=>?_,fun z17 t18 Wc=>?_,trivial⟩
  ·
   refine jc [] (ag4) ?_
   rintro v61 L61 ⟨_,ahV,rfl⟩
   refine eG EU (zN 1 7) ?_
   obtain⟨x66,Hj⟩:=zG pz (x64.toNat) (by have:=ah3 _ (zL NI);omega)
   refine mW x64 1 ahV Hj (Int.toNat_of_nonneg (show 0≤x64∧x64 <((pz).length:Int) from (ah3 _ (zL NI))).1).symm fun b66 ax0=>ki 0 [0] L61 (fun s _ hZ=>bh ahV ax0 hZ Hj)<|I5 [12,14] ⟨fun z20 t21 aiY=>?_,fun z23 t24 V9=>?_,trivial⟩
   ·
    refine jc (vs:=[zP d,zI ((cs.length:Int)-1)]) [3] (EZ hN hJ.2.2.2 (by omega)) ?_
    rintro _ X73 ⟨w73,rfl,aEU,abO,ai3⟩
    refine gx aiY [[1],[5],[6]]<|zD 1<|aS 14 fun adD aeo ET=>jn fun vz=>eG ET (zN 1 8)<|aS 15 fun Pu PW C5=>jd 1 [0]<|fW C5<|zD 1<|bF hK8 ⟨vz,w73,_,x66,X73⟩ ⟨NI,Hj,(by dsimp only;omega),ai3⟩ Nat.zero_lt_one [0,3,4,1,5,6,7,8] (Sub.refl _)
   refine jn fun vz=>eG V9 (zN 1 8)<|aS 12 fun Pt PV HU=>jc (vs:=[zP d,zI ((cs.length:Int)-1)]) [4] (EZ hN hJ.2.2.2 (by omega)) ?_
   rintro _ X73 ⟨w73,rfl,aEU,abO,ai3⟩
   refine gx HU [[2],[6],[7]]<|zD 1<|aS 15 fun Ps PU HT=>jd 1 [1]<|fW HT<|zD 1<|bF hK8 ⟨vz,w73,_,x66,X73⟩ ⟨NI,Hj,(by dsimp only;omega),ai3⟩ Nat.zero_lt_one [1,3,4,0,5,6,7,8] (Sub.refl _)
  refine jn fun vz=>eG Wc (zN 1 7)<|aS 0 fun adC aen V8=>jc [] (ag4) ?_
  rintro v61 L61 ⟨_,ahV,rfl⟩
  refine eG V8 (zN 1 8) ?_
  obtain⟨x66,Hj⟩:=zG pz (x64.toNat) (by have:=ah3 _ (zL NI);omega)
  refine mW x64 1 ahV Hj (Int.toNat_of_nonneg (show 0≤x64∧x64 <((pz).length:Int) from (ah3 _ (zL NI))).1).symm fun b66 ax0=>ki 0 [0] L61 (fun s _ hZ=>bh ahV ax0 hZ Hj)<|aS 12 fun adB aem So=>jc (vs:=[zP d,zI ((cs.length:Int)-1)]) [4] (EZ hN hJ.2.2.2 (by omega)) ?_
  rintro _ X73 ⟨w73,rfl,aEU,abO,ai3⟩
  refine gx So [[1],[6],[7]]<|zD 1<|aS 15 fun aqg aqB V7=>jd 1 [2]<|fW V7<|zD 1<|bF hK8 ⟨vz,w73,_,x66,X73⟩ ⟨NI,Hj,(by dsimp only;omega),ai3⟩ Nat.zero_lt_one [2,3,4,0,5,6,7,8] (Sub.refl _)
 refine jd 5 [4] ?_
 obtain⟨ad8,ad1,air⟩:=hI.2.1.form
 subst air
 obtain⟨aMs,aL8,aSt⟩:=hJ.2.1.form
 subst aSt
 refine jd 3 [6]<|zR (.agg ⟨[(.slice ad8 (cs).length ad1),(.slice aMs (hv).length aL8)]⟩) [6] [3,0,1,2] (LC++(LH++(Z++X))) ⟨cs,hv,hd,_,_,LC++(LH++Z),X,rfl,aaB hI.2.2.1 RP (by omega) hJ.2.2.1 (by omega) (by omega) wA ah3,hJ.2.2.1.2.2.2.2,fun aG hk=>⟨hI.2.1.jF hk.left,hJ.2.1.jF hk.right.left,hJ.2.2.1.1 aG hk.right.right⟩,by simp only[List.append_assoc],hJ.2.2.2⟩
abbrev fw(x:Value):List Value:=[x]
structure ah where
 n:Int
 l:Int
abbrev cK(x:ah):List Value:=[zI x.n,zI x.l]
def am6(x y:ah):Prop:=x.n <y.n∨(x.n=y.n∧x.l <y.l)
def BI(x:ah):Prop:=(1≤x.n∧x.n≤9)∧0≤x.l∧x.l≤4
structure eS(S:List (List ah)):Prop where
 two:S.length=2
 len:∀l∈S,l.length≤4
 ok:∀l∈S,∀x∈l,BI x
 asc:∀l∈S,l.Pairwise am6
def yR:List (List ah):=[[⟨1,0⟩,⟨2,0⟩],[⟨1,0⟩,⟨3,0⟩]]
def cW(ro:Nat→Option Obj)(v:Value)(S:List (List ah)):Prop:=∃ws,bB ro v 1 fw ws∧de (fun w l=>bB ro w 2 cK l) ws S
def nU(ro:Nat→Option Obj)(v:Value)(ways:List (List aN)):Prop:=∃ws,bB ro v 1 fw ws∧de (fun w l=>bB ro w 7 kS l) ws ways
theorem cW.up{v:Value}{S:List (List ah)}(h:cW ro v S)(hs:Sub ro aD):cW aD v S:=by
 obtain⟨ws,h1,h2⟩:=h
 exact⟨ws,h1.up hs,h2.imp fun _ _ k=>k.up hs⟩
theorem nU.up{v:Value}{w:List (List aN)}(h:nU ro v w)(hs:Sub ro aD):nU aD v w:=by
 obtain⟨ws,h1,h2⟩:=h
 exact⟨ws,h1.up hs,h2.imp fun _ _ k=>k.up hs⟩
theorem jh.up{hv:List bx}(h:jh ro vc vh cs hv hd)(hs:Sub ro aD):jh aD vc vh cs hv hd:=
 ⟨h.1.up hs,h.2.1.up hs,h.2.2.imp fun _ _ k=>⟨k.1,k.2.1,k.2.2.1,k.2.2.2.up hs⟩⟩
structure aC where
 ways:List (List aN)
 cs:List bN
 hd:List cA
 rules:List bP
 before:List aB
 after:List aB
 gone:Int
 new:Int
 af:Int
 facts:List bM
 str:List (List ah)
def fx(ro:Nat→Option Obj)(l:List Value)(k:aC):Prop:=∃(vS vT vc vh vr vb va vf:Value) (fa:Option Addr) (fc:Nat) (hv:List bx),
 l=[vS,vT,.slice fa 0 fc,vc,vh,vr,vb,va,zI k.gone,zI k.new,zI k.af,vf]∧cW ro vS k.str∧nU ro vT k.ways∧jh ro vc vh k.cs hv k.hd∧de dq hv k.hd∧
 bB ro vr 2 iG k.rules∧bB ro vb 5 eC k.before∧bB ro va 5 eC k.after∧bB ro vf 3 mY k.facts
def nX(hd:List cA)(i:Int):Prop:=i= -1∨(0≤i∧∃x,hd[i.toNat]?=some x∧0≤x.cls)
def BJ(hd:List cA)(p:aB):Prop:=OT p.name∧nX hd p.head∧(0≤p.st∧p.st≤1)∧p.bold=false
def ak3(hd:List cA)(p:aB):Prop:=BJ hd p∧(p.st=0→p.no=1∨p.no=2)∧(p.st=1→p.no=1∨p.no=3)
def ak4(hd:List cA)(p:aB):Prop:=BJ hd p∧1≤p.no∧p.no≤3
def FE(hd:List cA)(p:aB):Prop:=((1≤p.name.size∧p.name.size≤6)∧Script p.name)∧nX hd p.head∧(0≤p.st∧p.st≤1)∧p.bold=false
def apY(S:List (List ah))(hd:List cA)(p:aB):Prop:=FE hd p∧∃l,S[p.st.toNat]?=some l∧(⟨p.no,0⟩:ah)∈l
def aJl(hd:List cA)(p:aB):Prop:=FE hd p∧1≤p.no∧p.no≤40
structure aai(cs:List bN)(hd:List cA):Prop where
 nc:0 <cs.length∧cs.length≤6
 nh:hd.length≤6
 Bc:∀(i:Nat) (x:cA),hd[i]?=some x→gH cs.length hd.length i x
structure jz(k:aC):Prop where
 oT:eS k.str
 ways:k.ways.length≤1∧∀l∈k.ways,(1≤l.length∧l.length≤2)∧∀c∈l,jA c
 c8:aai k.cs k.hd
 rules:k.rules.length≤4
 before:k.before.length≤4∧∀p∈k.before,apY k.str k.hd p
 after:k.after.length≤4∧∀p∈k.after,aJl k.hd p
 ug:(0≤k.gone∧k.gone≤4)∧(0≤k.new∧k.new≤4)∧(0≤k.af∧k.af≤4)
 facts:k.facts.length≤4∧(∀x∈k.facts,(0≤x.a∧x.a <k.before.length)∧(0≤x.b∧x.b <k.after.length))
 apart:k.facts.Pairwise fun x y=>¬(x.a=y.a∧x.b=y.b)
structure Tt(k:aC):Prop where
 ways:k.ways.length≤1∧∀l∈k.ways,(1≤l.length∧l.length≤2)∧∀c∈l,jA c
 c8:xb k.cs k.hd
 rules:k.rules.length≤2∧∀r∈k.rules,IU r
 before:k.before.length≤4∧∀p∈k.before,ak3 k.hd p
 after:k.after.length≤4∧∀p∈k.after,ak4 k.hd p
 ug:(0≤k.gone∧k.gone≤4)∧(0≤k.new∧k.new≤4)∧(0≤k.af∧k.af≤4)
 facts:k.facts.length≤4∧(∀x∈k.facts,(0≤x.a∧x.a <k.before.length)∧(0≤x.b∧x.b <k.after.length))
 apart:k.facts.Pairwise fun x y=>¬(x.a=y.a∧x.b=y.b)
 str:k.str=yR
theorem abe:eS yR where
 two:=rfl
 len:=by simp[yR]
 ok:=by simp[yR,BI]
 asc:=by simp[yR,am6]
theorem BJ.c{p:aB}(h:BJ hd p):FE hd p:=⟨⟨⟨h.1.1.1,by have:=h.1.1.2;omega⟩,h.1.2⟩,h.2⟩
theorem Tt.c{k:aC}(h:Tt k):jz k where
 oT:=by rw[h.str];exact abe
 ways:=h.ways
 c8:=⟨⟨h.c8.nc.1,by have:=h.c8.nc.2;omega⟩,by have:=h.c8.nh;omega,fun i x hx=>(h.c8.Bc i x hx).2⟩
 rules:=by have:=h.rules.1;omega
 before:=⟨by have:=h.before.1;omega,fun p hp=>by
  obtain⟨h1,h2,h3⟩:=h.before.2 p hp
  refine⟨h1.c,?_⟩
  rw[h.str]
  have h4:=h1.2.2.1
  rcases(by omega:p.st=0∨p.st=1) with e|e
  ·rw[e];exact⟨_,rfl,by rcases h2 e with e2|e2<;>simp[e2]⟩
  rw[e];exact⟨_,rfl,by rcases h3 e with e2|e2<;>simp[e2]⟩⟩
 after:=⟨by have:=h.after.1;omega,fun p hp=>by
  obtain⟨h1,h2,h3⟩:=h.after.2 p hp
  exact⟨h1.c,h2,by omega⟩⟩
 ug:=h.ug
 facts:=⟨by have:=h.facts.1;omega,h.facts.2⟩
 apart:=h.apart
theorem xD{hv:List bx}(h:de dq hv hd){i:Int}(k:i= -1∨Xk hv i):nX hd i:=by
 rcases k with k| ⟨k0,x,k1,k2⟩
 ·exact .inl k
 obtain⟨y,h1,h2⟩:=h.get k1
 exact .inr ⟨k0,y,h1,h2.2.1▸k2⟩
theorem Ui{c e:Nat}(h1:ro b=some (.cells ⟨[zI 1,zI 0,zI 2,zI 0]⟩ 81 (0,0)))(h2:ro c=some (.cells ⟨[zI 1,zI 0,zI 3,zI 0]⟩ 81 (0,0)))
 (h3:ro e=some (.cells ⟨[.slice (some ⟨b,0,none⟩) 2 2,.slice (some ⟨c,0,none⟩) 2 2]⟩ 82 (0,0))):cW ro (.slice (some ⟨e,0,none⟩) 2 2) yR:=
 ⟨_,bU [_,_] h3 (fun _ _=>rfl),.cons (bU [(⟨1,0⟩:ah),⟨2,0⟩] h1 (fun _ _=>rfl)) (.cons (bU [(⟨1,0⟩:ah),⟨3,0⟩] h2 (fun _ _=>rfl)) .nil)⟩
def BL(nb na:Nat)(fs:List bM):Prop:=(∀x∈fs,(0≤x.a∧x.a <nb)∧(0≤x.b∧x.b <na))∧fs.Pairwise fun x y=>¬(x.a=y.a∧x.b=y.b)
theorem BL.snoc{nb na:Nat}(h:BL nb na fs){x:bM}(ha:0≤x.a∧x.a <nb)(hb:0≤x.b∧x.b <na)(hn:DF fs x.a x.b=false):BL nb na (fs++[x]):=by
 refine⟨qL h.1 ⟨ha,hb⟩,List.pairwise_append.2 ⟨h.2,List.pairwise_singleton _ _,fun y hy z hz e=>?_⟩⟩
 rw[List.mem_singleton] at hz;subst hz
 have:=List.any_eq_false.1 hn y hy
 simp[e.1,e.2] at this
theorem avp{w u:Int}(h:w∈[1,2,4,u])(hu:0≤u∧u≤4):0≤w∧w≤4:=by
 simp only[List.mem_cons,List.not_mem_nil,or_false] at h
 omega
theorem Ul:nU ro (zS) []:=⟨[],bB.nil _ _ _ _ _,.nil⟩
end Go.L
