/- Part 3 of the proof. -/
import Derived.Test.YtjnpgdnbbljggaaGreatDoorL2
set_option maxRecDepth 100000
set_option maxHeartbeats 4000000
set_option linter.all false
namespace Go.L
open Go Go.Conc
open Go.ConcR (KK wgBlock WgAt stA smA rd wr)
variable {Stop:Goroutine→St→Prop} {ι:Type} {n mx b j m':Nat} {s s':St} {st sm:Int} {cs:List Frame} {w':World} {g1:Goroutine}
def ko(Hb:Nat)(l:Loc):Prop:=∃a,l= .cell a∧a.block=Hb∧a.off=qg
def gx(r:Nat→Option Obj)(b:Nat)(o:Obj):Nat→Option Obj:=fun x=>if x=b then some o else r x
theorem gI(r:Nat→Option Obj)(b:Nat)(o:Obj):gx r b o b=some o:=by simp[gx]
theorem jz(r:Nat→Option Obj){x:Nat}(o:Obj)(h:x≠b):gx r b o x=r x:=by simp[gx,h]
section
variable {L L':Nat→Option Obj} {K:Nat→St} {w w':World} {t:Trace} {i Hb:Nat} {X Y:List (Nat×Obj)} {full:Obj} {hc:Array Value} {ht:TypeId}
theorem Fit.take(h:Fit L K w t)(hL:∀b o,L' b=some o→L b=some o)(hX:∀b o,(b,o)∈X→L b=some o∧L' b=none∧Obj.real o=true∧∀j,¬(K j).knows b)(gX:(X.map (·.1)).Nodup)
 (my:(K i).ro Hb=some (.pending hc ht))(hr:Obj.real full=true)(hw:w.heap[Hb]?=some full)
 (hk:∀p x,touchAt t p=some x→((∃b o,(b,o)∈X∧blk x.loc=some b)∨ko Hb x.loc)→Knows t i p):
 Fit L' (dL K i ⟨gx (K i).ro Hb full,X++(K i).rw⟩) w t:=by
 have zk:∀b,(⟨gx (K i).ro Hb full,X++(K i).rw⟩:St).owns b→(∃o,(b,o)∈X)∨(K i).owns b:=fun b ⟨o,ho⟩=>(List.mem_append.1 ho).elim (fun h'=> .inl ⟨o,h'⟩) fun h'=> .inr ⟨o,h'⟩
 have aAQ:∀b,(⟨gx (K i).ro Hb full,X++(K i).rw⟩:St).knows b→(∃o,(b,o)∈X)∨(K i).knows b:=fun b hb=>by
  rcases hb with hb|hb
  ·by_cases e:b=Hb
   ·subst e;exact .inr (.inl (by rw[my];simp))
   exact .inr (.inl (by simpa [gx,e] using hb))
  exact(zk b hb).imp id .inr
 have hLn:∀b,L b=none→L' b=none:=fun b hb=>by
  cases h':L' b with
  |none=>rfl
  |some o=>rw[hL b o h'] at hb;cases hb
 refine⟨fun b o hl=>h.wW b o (hL b o hl),fun j b ho=>?_,fun j=>?_,fun j k b Cm ho hb=>?_,fun j b ho p x hx hb=>?_,fun j b ho p x hx hb hwr hh=>?_,h.old,h.clean,fun p x b hx hkd hb=>?_⟩
 ·by_cases e:j=i
  ·subst e;rw[au] at ho
   exact(zk b ho).elim (fun⟨o,h'⟩=>(hX b o h').2.1) fun h'=>hLn b (h.iB j b h')
  rw[aA _ _ e] at ho;exact hLn b (h.iB j b ho)
 ·by_cases e:j=i
  ·subst e;rw[au]
   have a:=h.iX j
   refine⟨fun b o hb=>?_,fun b o hb=>(List.mem_append.1 hb).elim (fun h'=>h.wW b o (hX b o h').1) (a.rw b o),fun b o hb=>(List.mem_append.1 hb).elim (fun h'=>(hX b o h').2.2.1) (a.real b o),?_,fun b o hb=>?_⟩
   ·by_cases e:b=Hb
    ·subst e;simp only[gI,Option.some.injEq] at hb;subst hb;exact .inl ⟨hw,hr⟩
    simp only[jz _ _ e] at hb;exact a.ro b o hb
   ·rw[List.map_append,List.nodup_append]
    refine⟨gX,a.nodup,?_⟩
    rintro b h1 _ h2 rfl
    obtain⟨⟨b1,o1⟩,m1,rfl⟩:=List.mem_map.1 h1
    obtain⟨⟨b2,o2⟩,m2,he⟩:=List.mem_map.1 h2
    simp only at he;subst he
    exact(hX b2 o1 m1).2.2.2 j (.inr ⟨o2,m2⟩)
   rcases List.mem_append.1 hb with h'|h'
   ·have hn:=(hX b o h').2.2.2 j
    have e:b≠Hb:=fun e=>hn (by subst e;exact .inl (by rw[my];simp))
    simp only[jz _ _ e]
    cases mz:(K j).ro b with
    |none=>rfl
    |some y=>exact absurd (.inl (by rw[mz];simp)) hn
   have e:b≠Hb:=fun e=>by subst e;have:=a.apart b o h';rw[my] at this;cases this
   simp only[jz _ _ e];exact a.apart b o h'
  rw[aA _ _ e];exact h.iX j
 ·by_cases e:j=i
  ·subst e
   rw[au] at ho;rw[aA _ _ (Ne.symm Cm)] at hb
   exact(zk b ho).elim (fun⟨o,h'⟩=>(hX b o h').2.2.2 k hb) fun h'=>h.sep j k b Cm h' hb
  rw[aA _ _ e] at ho
  by_cases e':k=i
  ·subst e';rw[au] at hb
   exact(aAQ b hb).elim (fun⟨o,h'⟩=>(hX b o h').2.2.2 j (.inr ho)) fun h'=>h.sep j k b Cm ho h'
  rw[aA _ _ e'] at hb;exact h.sep j k b Cm ho hb
 ·by_cases e:j=i
  ·subst e;rw[au] at ho
   exact(zk b ho).elim (fun⟨o,h'⟩=>hk p x hx (.inl ⟨b,o,h',hb⟩)) fun h'=>h.perm j b h' p x hx hb
  rw[aA _ _ e] at ho;exact h.perm j b ho p x hx hb
 ·by_cases e:j=i
  ·subst e;rw[au] at ho hh
   by_cases e':ko Hb x.loc
   ·exact hk p x hx (.inr e')
   refine h.nq j b ?_ p x hx hb hwr fun⟨a,c,ty,h1,h2,h3⟩=>?_
   ·by_cases e:b=Hb
    ·subst e;rw[my];simp
    simpa [gx,e] using ho
   by_cases e:a.block=Hb
   ·exact e' ⟨a,h1,e,h3⟩
   exact hh ⟨a,c,ty,h1,by simp only[jz _ _ e];exact h2,h3⟩
  rw[aA _ _ e] at ho hh;exact h.nq j b ho p x hx hb hwr hh
 refine⟨hLn b (h.sync p x b hx hkd hb).1,fun j hj=>?_⟩
 have hs:=h.sync p x b hx hkd hb
 by_cases e:j=i
 ·subst e;rw[au] at hj
  exact(aAQ b hj).elim (fun⟨o,h'⟩=>by have:=(hX b o h').1;rw[hs.1] at this;cases this) (hs.2 j)
 rw[aA _ _ e] at hj;exact hs.2 j hj
theorem Fit.give(h:Fit L K w t)(hL:∀b,L' b=L b∨∃o,(b,o)∈X)(hX:∀b o,(b,o)∈X→L' b=some o)(AJ:(K i).rw.Perm (X++Y))
 {c:Array Value}{v:Value}(my:(K i).ro Hb=some (.cells c ht (0,0)))(r5:qg <c.size)(hht:ht≤Fj)(hcs:c.size=hc.size)(hce:∀j,j≠qg→c[j]?=hc[j]?) (hLH:L Hb=none)
 (aB9:∀j,j≠i→∀o,(K j).ro Hb=some o→Obj.real o=false)
 (afj:∀p x,touchAt t p=some x→ko Hb x.loc→Knows t i p) (fn:FuncId) (pos:String):
 Fit L' (dL K i ⟨gx (K i).ro Hb (.pending hc ht),Y⟩) (w.setCell ⟨Hb,qg,none⟩ v) (t++MemOp.ofEvents i fn pos #[⟨.cell ⟨Hb,qg,none⟩,true,false⟩]):=by
 have SH:w.heap[Hb]?=some (.cells c ht (0,0)):=((h.iX i).ro Hb _ my).elim (·.1) fun h=>h.elim (fun⟨_,_,_,e,_⟩=>by cases e) fun⟨_,_,e,_⟩=>by cases e
 have hw':(w.setCell ⟨Hb,qg,none⟩ v).heap[Hb]?=some (.cells (c.setIfInBounds qg v) ht (0,0)):=by simp[World.setCell,Array.getElem?_modify,SH]
 have hwo:∀b,b≠Hb→(w.setCell ⟨Hb,qg,none⟩ v).heap[b]?=w.heap[b]?:=fun b hb=>by simp[World.setCell,Array.getElem?_modify,Ne.symm hb]
 have qS:(w.setCell ⟨Hb,qg,none⟩ v).heap.size=w.heap.size:=by simp[World.setCell]
 have e1:MemOp.ofEvents i fn pos #[⟨.cell ⟨Hb,qg,none⟩,true,false⟩]= #[{g:=i,fn,pos,act:= .access ⟨.cell ⟨Hb,qg,none⟩,true,false⟩}]:=by rw[ofEvents_eq];simp[MemAct.ofEvent]
 rw[e1]
 have hu:∀op∈(#[{g:=i,fn,pos,act:= .access ⟨.cell ⟨Hb,qg,none⟩,true,false⟩}]:Trace),op.g=i∧op.act= .access ⟨.cell ⟨Hb,qg,none⟩,true,false⟩:=by intro op av;simp at av;subst av;exact⟨rfl,rfl⟩
 generalize (#[{g:=i,fn,pos,act:= .access ⟨.cell ⟨Hb,qg,none⟩,true,false⟩}]:Trace)=u at hu
 have UF:∀op∈u,∀x,op.act.touch?=some x→x=⟨.cell ⟨Hb,qg,none⟩,true,.plain⟩:=fun op av x hx=>by
  rw[(hu op av).2] at hx;simp only[MemAct.touch?,Bool.false_eq_true,if_false,Option.some.injEq] at hx;exact hx.symm
 have old:∀p x b,touchAt (t++u) p=some x→blk x.loc=some b→b≠Hb→touchAt t p=some x:=fun p x b hx hb cF=>by
  rcases aI hx with ⟨_,h'⟩| ⟨_,op,hm,_,oK⟩
  ·exact h'
  rw[UF op hm x oK] at hb;exact absurd (Option.some.inj hb).symm cF
 have kY:∀b,(⟨gx (K i).ro Hb (.pending hc ht),Y⟩:St).knows b→(K i).knows b∧∀o,(b,o)∉X:=fun b hb=>by
  have a:=h.iX i
  have gX:=(AJ.map (·.1)).nodup_iff.1 a.nodup
  rw[List.map_append,List.nodup_append] at gX
  rcases hb with hb| ⟨o,hb⟩
  ·have hr:(K i).ro b≠none:=by
    by_cases e:b=Hb
    ·subst e;rw[my];simp
    simpa [gx,e] using hb
   exact⟨.inl hr,fun o ho=>hr (a.apart b o (AJ.mem_iff.2 (by simp[ho])))⟩
  exact⟨.inr ⟨o,AJ.mem_iff.2 (by simp[hb])⟩,fun o' ho=>gX.2.2 b (List.mem_map.2 ⟨_,ho,rfl⟩) b (List.mem_map.2 ⟨_,hb,rfl⟩) rfl⟩
 have oY:∀b,(⟨gx (K i).ro Hb (.pending hc ht),Y⟩:St).owns b→(K i).owns b:=fun b ⟨o,hb⟩=>⟨o,AJ.mem_iff.2 (by simp[hb])⟩
 have neH:∀b,(K i).owns b→b≠Hb:=fun b ⟨o,hb⟩ e=>by subst e;have:=(h.iX i).apart b o hb;rw[my] at this;cases this
 have azv:∀j b,j≠i→(K j).owns b→b≠Hb:=fun j b hj hb e=>by subst e;exact h.sep j i b hj hb (.inl (by rw[my];simp))
 have jX:∀j b o,j≠i→(K j).knows b→(b,o)∉X:=fun j b o hj hb ho=>h.sep i j b (Ne.symm hj) ⟨o,AJ.mem_iff.2 (by simp[ho])⟩ hb
 have LX:∀b,(∀o,(b,o)∉X)→L' b=L b:=fun b hb=>(hL b).resolve_right fun⟨o,ho⟩=>hb o ho
 have aNU:DU (.pending hc ht) (w.setCell ⟨Hb,qg,none⟩ v).heap[Hb]?:=by
  refine .inr (.inl ⟨hc,_,ht,rfl,hw',by simp[hcs],fun j hj=>?_,hht⟩)
  rw[Array.getElem?_setIfInBounds_ne (Ne.symm hj)];exact hce j hj
 refine⟨fun b o hl=>?_,fun j b ho=>?_,fun j=>?_,fun j k b Cm ho hb=>?_,fun j b ho p x hx hb=>?_,fun j b ho p x hx hb hwr hh=>?_,fun p x b hx hb=>?_,fun said=>?_,fun p x b hx hkd hb=>?_⟩
 ·rcases hL b with h1| ⟨o',h1⟩
  ·rw[hwo b (fun e=>by subst e;rw[h1,hLH] at hl;cases hl)];exact h.wW b o (h1▸hl)
  have:=hX b o' h1
  rw[hl] at this;cases this
  have ho:(b,o)∈(K i).rw:=AJ.mem_iff.2 (by simp[h1])
  rw[hwo b (neH b ⟨o,ho⟩)];exact(h.iX i).rw b o ho
 ·by_cases e:j=i
  ·subst e;rw[au] at ho
   rw[LX b (kY b (.inr ho)).2];exact h.iB j b (oY b ho)
  rw[aA _ _ e] at ho
  rw[LX b fun o=>jX j b o e (.inr ho)];exact h.iB j b ho
 ·by_cases e:j=i
  ·subst e;rw[au]
   have a:=h.iX j
   have gX:=(AJ.map (·.1)).nodup_iff.1 a.nodup
   rw[List.map_append,List.nodup_append] at gX
   refine⟨fun b o hb=>?_,fun b o hb=>?_,fun b o hb=>a.real b o (AJ.mem_iff.2 (by simp[hb])),gX.2.1,fun b o hb=>?_⟩
   ·by_cases e:b=Hb
    ·subst e;simp only[gI,Option.some.injEq] at hb;subst hb;exact aNU
    simp only[jz _ _ e] at hb;rw[hwo b e];exact a.ro b o hb
   ·have ho:(b,o)∈(K j).rw:=AJ.mem_iff.2 (by simp[hb])
    rw[hwo b (neH b ⟨o,ho⟩)];exact a.rw b o ho
   have ho:(b,o)∈(K j).rw:=AJ.mem_iff.2 (by simp[hb])
   simp only[jz _ _ (neH b ⟨o,ho⟩)];exact a.apart b o ho
  rw[aA _ _ e]
  have a:=h.iX j
  refine⟨fun b o hb=>?_,fun b o hb=>?_,a.real,a.nodup,a.apart⟩
  ·by_cases e':b=Hb
   ·subst e'
    have hf:=aB9 j e o hb
    rcases a.ro b o hb with h1| ⟨c1,c2,t1,rfl,h2,h3,h4,h5⟩| ⟨_,_,_,h2⟩
    ·rw[hf] at h1;cases h1.2
    ·rw[SH] at h2;cases h2
     refine .inr (.inl ⟨c1,_,_,rfl,hw',by simpa using h3,fun j hj=>?_,h5⟩)
     rw[Array.getElem?_setIfInBounds_ne (Ne.symm hj)];exact h4 j hj
    rw[SH] at h2;cases h2
   rw[hwo b e'];exact a.ro b o hb
  rw[hwo b (azv j b e ⟨o,hb⟩)];exact a.rw b o hb
 ·by_cases e:j=i
  ·subst e;rw[au] at ho;rw[aA _ _ (Ne.symm Cm)] at hb;exact h.sep j k b Cm (oY b ho) hb
  rw[aA _ _ e] at ho
  by_cases e':k=i
  ·subst e';rw[au] at hb;exact h.sep j k b Cm ho (kY b hb).1
  rw[aA _ _ e'] at hb;exact h.sep j k b Cm ho hb
 ·by_cases e:j=i
  ·subst e;rw[au] at ho
   exact(h.perm j b (oY b ho) p x (old p x b hx hb (neH b (oY b ho))) hb).app u
  rw[aA _ _ e] at ho
  exact(h.perm j b ho p x (old p x b hx hb (azv j b e ho)) hb).app u
 ·rcases aI hx with ⟨_,iM⟩| ⟨hp,op,hm,av,oK⟩
  ·by_cases e:j=i
   ·subst e;rw[au] at ho hh
    refine(h.nq j b ?_ p x iM hb hwr fun⟨a,c,ty,h1,h2,h3⟩=>hh ⟨a,?_⟩).app u
    ·by_cases e:b=Hb
     ·subst e;rw[my];simp
     simpa [gx,e] using ho
    by_cases e:a.block=Hb
    ·exact⟨hc,ht,h1,by rw[e];exact gI _ _ _,h3⟩
    exact⟨c,ty,h1,by simp only[jz _ _ e];exact h2,h3⟩
   rw[aA _ _ e] at ho hh;exact(h.nq j b ho p x iM hb hwr hh).app u
  obtain rfl:=UF op hm x oK
  cases hb
  by_cases e:j=i
  ·subst e;rw[au] at hh
   exact absurd ⟨_,hc,ht,rfl,gI _ _ _,rfl⟩ hh
  rw[aA _ _ e] at ho hh
  cases hr:(K j).ro Hb with
  |none=>exact absurd hr ho
  |some o=>
   have hf:=aB9 j e o hr
   cases o with
   |pending c1 t1=>exact absurd ⟨_,_,_,rfl,hr,rfl⟩ hh
   |_=>cases hf
 ·rcases aI hx with ⟨_,h'⟩| ⟨_,op,hm,_,oK⟩
  ·rw[qS];exact h.old p x b h' hb
  obtain rfl:=UF op hm x oK
  cases hb;rw[qS];exact lt_size SH
 ·refine noRace_append (h.clean said) (fun op av=>(hu op av).1) fun p a ha op hm b hb hcf=>?_
  obtain rfl:=UF op hm b hb
  exact afj p a ha ⟨_,hcf.1,rfl,rfl⟩
 rcases aI hx with ⟨_,iM⟩| ⟨_,op,hm,_,oK⟩
 ·have hs:=h.sync p x b iM hkd hb
  have hbX:∀o,(b,o)∉X:=fun o ho=>hs.2 i (.inr ⟨o,AJ.mem_iff.2 (by simp[ho])⟩)
  refine⟨by rw[LX b hbX];exact hs.1,fun j hj=>?_⟩
  by_cases e:j=i
  ·subst e;rw[au] at hj;exact hs.2 j (kY b hj).1
  rw[aA _ _ e] at hj;exact hs.2 j hj
 obtain rfl:=UF op hm x oK;exact absurd rfl hkd
end
open Go.ConcM (OsLater)
def MuAt(tm:TypeId)(Mu:Nat)(w:World)(st sm:Int):Prop:=w.heap[Mu]?=some (.cells #[.int .i32 st,.int .u32 sm] tm)
def lJ(tm:TypeId)(Mu:Nat)(w:World):Prop:=∃st sm,MuAt tm Mu w st sm
def iC(w w':World):Prop:=OsLater w.os w'.os∧w'.output=w.output
structure yf(tm:TypeId)(Mu:Nat)(w w':World)(o':Wd)(m':Nat):Prop where
 size:w'.heap.size=w.heap.size
 block:∀b,b≠Mu→w'.heap[b]?=w.heap[b]?
 later:iC w w'
 now:MuAt tm Mu w' o'.enc m'
def aJ.deaf:aJ→Nat
 | .out _| .ld _| .la _| .own _| .ui _| .ur _| .ud _=>0
 |_=>1
def aJ.mid:aJ→Bool
 | .out _| .own _| .la _| .ue _=>false
 |_=>true
def aJ.isL:aJ→Bool
 | .out _| .own _| .ui _| .ur _| .ud _| .u0 _| .uc .. | .ux _| .us _| .ue _=>false
 |_=>true
def aJ.isU:aJ→Bool
 | .ui _| .ur _| .ud _| .u0 _| .uc .. | .ux _| .us _| .ue _=>true
 |_=>false
def aJ.k:aJ→Nat
 | .out k| .ld k| .l0 k| .r0 k| .sq k .. | .c1 k .. | .r1 k .. | .c2 k .. | .r3 k .. | .t1 k _| .s1 k _| .t2 k _| .r2 k _| .a1 k _| .le k| .la k| .own k| .ui k| .ur k| .ud k| .u0 k| .uc k _| .ux k| .us k| .ue k=>k
def aJ.zm:aJ→Bool
 | .s1 .. =>true
 |_=>false
def kQ:aJ→Wd→Prop
 | .r1 _ aw sv _ _,o| .r3 _ aw sv _ _,o=>aw=true→o.W=true∧o.S=false
 | .r2 _ _,o=>(o.S=true→o.L=false∧o.W=false∧1≤o.c)∧(o.S=false→o.W=true)
 | .a1 _ _,o=>o.S=true∧o.L=false∧o.W=false∧1≤o.c
 | .u0 _,o=>o.L=true
 |_,_=>True
def oV(Mu:Nat)(e:Event):Prop:=e=said .disable∨e=said .enable∨e=said (.releaseMerge (stA Mu))∨e=said (.acquire (stA Mu))∨∃a x,e=⟨.cell a,x,true⟩∧a.block=Mu
structure yg(P:Program)(tm:TypeId)(mx:Nat) where
 At:Nat→aJ→List Frame→Goroutine→Prop
 running:∀ {Mu x cs g},At Mu x cs g→g.status= .running∧g.offers=none
 step:∀ {Mu x cs g w o m},At Mu x cs g→MuAt tm Mu w (Wd.enc o) (m:Nat)→o.c≤mx→m≤1→x.Ok→kQ x o→x.mid=true→(x.zm=true→m=1)→
  ∃g' w' es x' o' m',Nx x o m x' o' m'∧stepG P false g w= .go g' w' es∧yf tm Mu w w' o' m'∧(∀e∈es,oV Mu e)∧deafBehind x.deaf es=x'.deaf∧
   (∀k,x= .ur k→es= #[said (.releaseMerge (stA Mu))])∧((∃k,x= .us k)→mayWake P g=true)∧∃n,Pure P false (lJ tm Mu) (At Mu x' cs) n g'
 block:∀ {Mu k sv cs g w o},At Mu (.s1 k sv) cs g→MuAt tm Mu w (Wd.enc o) 0→stepG P false g w= .go {g with status:= .blocked} w #[]
 la:∀ {Mu k c cs g},At Mu (.la k) (c::cs) g→∃g',(∀w,stepG P false g w= .go g' w #[said (.acquire (stA Mu))])∧∃n,Pure P false (fun _=>True) (· =G (c.finish (.tuple #[])) cs) n g'
 ue:∀ {Mu k c cs g},At Mu (.ue k) (c::cs) g→c.mode= .returning→∃g',(∀w,stepG P false g w= .go g' w #[said .enable])∧∃n,Pure P false (fun _=>True) (· =G c cs) n g'
structure de(ι:Type) where
 P:Program
 ty:TypeId
 tm:TypeId
 Wg:Nat
 Mu:Nat
 Hb:Nat
 max:Nat
 mxl:Nat
 hc:Array Value
 ht:TypeId
 os:Os
 out:Array (Nat×ByteArray)
 Gd:List ι→Value→List (Nat×Obj)→Prop
 M:yg P tm max
 hht:ht≤Fj
section
variable {ι:Type} (E:de ι)
def de.jK:eH Unit:=⟨E.P,E.ty,E.Wg,0,E.max,undef,E.os,E.out,fun _ _ _=>False⟩
def de.full(v:Value):Obj:= .cells (E.hc.setIfInBounds qg v) E.ht (0,0)
def de.hole:Obj:= .pending E.hc E.ht
abbrev de.pu(Stop:Goroutine→Prop)(n:Nat)(g:Goroutine):Prop:=Pure E.P false (lJ E.tm E.Mu) Stop n g
def IB(l1:List ι)(s:St)(w:World)(s':St)(w':World)(es:Array Event):Prop:=∃v X Y c,s.ro E.Hb=some (.cells c E.ht (0,0))∧qg <c.size∧c.size=E.hc.size∧(∀j,j≠qg→c[j]?=E.hc[j]?)∧
 s.rw.Perm (X++Y)∧E.Gd l1 v X∧w'=w.setCell ⟨E.Hb,qg,none⟩ v∧es= #[⟨.cell ⟨E.Hb,qg,none⟩,true,false⟩]∧s'.le ⟨gx s.ro E.Hb E.hole,Y⟩
def nY(l1:List ι)(Stop:Goroutine→St→Prop):Tree→Goroutine→St→Prop
 | .leaf,g,s=>Stop g s
 | .node f,g,s=>g.status= .running∧∀w,aZ s w→∃g' w' es s',stepG E.P false g w= .go g' w' es∧g'.status= .running∧(Trans s w s' w' es∨IB E l1 s w s' w' es)∧nY l1 Stop (f w) g' s'
def mP(l1:List ι)(Stop:Goroutine→St→Prop)(g:Goroutine)(s:St):Prop:=∃tr dO,dO.le s∧nY E l1 Stop tr g dO
def de.So(Next:Goroutine→St→Prop)(k:Nat)(g:Goroutine)(s:St):Prop:=s.ro E.Hb=some E.hole∧∃c cs n,E.pu (E.M.At E.Mu (.ui k) (c::cs)) n g∧c.mode= .returning∧dg E.P false Next (G c cs) s
def de.aGm(Next:Goroutine→St→Prop)(o:ι)(k:Nat)(c:Frame)(cs:List Frame)(s:St):Prop:=
 s.ro E.Hb=some E.hole∧∀l v X,E.Gd l v X→l.length <E.mxl→mP E (l++[o]) (E.So Next k) (G (c.finish (.tuple #[])) cs) ⟨gx s.ro E.Hb (E.full v),X++s.rw⟩
def de.Lck(Next:Goroutine→St→Prop)(o:ι)(k:Nat)(g:Goroutine)(s:St):Prop:=∃c cs n,E.pu (E.M.At E.Mu (.ld k) (c::cs)) n g∧E.aGm Next o k c cs s
def de.Stp(E:de ι):List ι→Goroutine→St→Prop
 | [],g,_=>E.jK.pure false E.jK.R0 g
 |o::os,g,s=>E.Lck (E.Stp os) o os.length g s
inductive ai(ι:Type) where
 |leave (q d:Nat) (cur:Bool)
 |work (os:List ι) (tr:Tree)
 |lk (x:aJ) (n:Nat) (o:ι) (os:List ι)
 |qE (o:ι) (os l:List ι) (tr:Tree)
 |post (os:List ι) (tr:Tree)
 |ul (x:aJ) (n:Nat) (os:List ι)
 |st (k:WK) (n:Nat)
def ai.lT:ai ι→aJ
 | .leave .. | .st .. => .out 0
 | .work os _=> .out os.length
 | .lk x .. =>x
 | .qE _ os _ _| .post os _=> .own os.length
 | .ul x _ _=>x
def ai.tT:ai ι→List ι
 | .leave .. | .st .. =>[]
 | .work os _| .post os _| .ul _ _ os=>os
 | .lk _ _ o os| .qE o os _ _=>o::os
def ai.cnt:ai ι→Nat
 | .leave .. =>0
 | .st .r0 _| .st .k1 _| .st .d1 _=>1
 | .st .. =>0
 |_=>1
def ai.c4:ai ι→Nat
 | .st .d2 _=>1
 |_=>0
def ai.c3:ai ι→Nat
 | .st .d3 _=>1
 |_=>0
def ai.c2:ai ι→Nat
 | .st .d4 _=>1
 |_=>0
def ai.left:ai ι→Bool
 | .leave .. =>true
 |_=>false
def ai.tok:ai ι→Bool
 | .post .. | .ul (.ui _) _ _| .ul (.ur _) _ _=>true
 |_=>false
def ai.ep:ai ι→Bool
 | .qE .. =>true
 |_=>false
def wh(Hb:Nat)(t:Trace)(i:Nat):Prop:=∀p x,touchAt t p=some x→ko Hb x.loc→Knows t i p
def fI(t:Trace)(i:Nat)(s:St)(g:Goroutine):ai ι→Prop
 | .leave q d cur=>s=⟨fun _=>none,[]⟩∧QuitsD E.P q d g∧Deaf t i=d∧(cur=true→∃r,ConcN.RelBy (stA E.Wg) t i r)∧(cur=false→db t i)
 | .work os tr=>Deaf t i=0∧lF E.P false (E.Stp os) tr g s
 | .lk x n o os=>x.isL=true∧x.k=os.length∧Deaf t i=x.deaf∧∃c cs,E.aGm (E.Stp os) o os.length c cs s∧
  (E.pu (E.M.At E.Mu x (c::cs)) n g∨(n=0∧x.zm=true∧∃fZ,E.M.At E.Mu x (c::cs) fZ∧g={fZ with status:= .blocked}))
 | .qE o os l tr=>Deaf t i=0∧wh E.Hb t i∧(∀x,s.ro E.Hb=some x→Obj.real x=true)∧nY E (l++[o]) (E.So (E.Stp os) os.length) tr g s
 | .post os tr=>Deaf t i=0∧∃l1,nY E l1 (E.So (E.Stp os) os.length) tr g s
 | .ul x n os=>x.isU=true∧x.k=os.length∧Deaf t i=x.deaf∧∃c cs,E.pu (E.M.At E.Mu x (c::cs)) n g∧c.mode= .returning∧dg E.P false (E.Stp os) (G c cs) s
 | .st k n=>s=⟨fun _=>none,[]⟩∧Deaf t i=k.deaf∧Pure E.P false E.jK.live (k.stop E.jK) n g∧(k.said=true→∃r,ConcN.RelBy (stA E.Wg) t i r)
section
variable (Fin:Goroutine→Prop)
abbrev de.pw(Stop:Goroutine→Prop)(g:Goroutine):Prop:=E.jK.pure true Stop g
def de.Aq(g:Goroutine):Prop:=g.status= .running∧∃g',(∀w,stepG E.P true g w= .go g' w #[said (.acquire (stA E.Wg))])∧Fin g'
def de.Ke(g:Goroutine):Prop:=g.status= .running∧∃g',(∀w,stepG E.P true g w= .go g' w #[said .enable])∧E.pw (E.Aq Fin) g'
def de.W4(g:Goroutine):Prop:=g.status= .running∧∃g',(∀w,WgAt E.ty E.Wg w 0 0→stepG E.P true g w= .go g' w #[rd (stA E.Wg)])∧E.pw (E.Ke Fin) g'
def de.W3(g:Goroutine):Prop:=g.status= .running∧g.offers=none∧(∀w st,WgAt E.ty E.Wg w st 0→stepG E.P true g w= .go {g with status:= .blocked} w #[])∧
 ∃g',(∀w,WgAt E.ty E.Wg w 0 1→stepG E.P true g w= .go g' (w.setCell (smA E.Wg) (.int .u32 0)) (semEvents (smA E.Wg)))∧E.pw (E.W4 Fin) g'
def de.Wr(g:Goroutine):Prop:=g.status= .running∧∃g',(∀w,stepG E.P true g w= .go g' w #[said (.write (smA E.Wg))])∧E.pw (E.W3 Fin) g'
def de.W2(Iy:Goroutine→Prop)(vs:Nat)(g:Goroutine):Prop:=g.status= .running∧
 (∃g',(∀w,WgAt E.ty E.Wg w ((vs:Int)*KK) 0→stepG E.P true g w= .go g' (w.setCell (stA E.Wg) (.int .u64 ((vs:Int)*KK+1))) #[rd (stA E.Wg),wr (stA E.Wg)])∧E.pw (E.Wr Fin) g')∧
 ∀v:Nat,v <vs→∃g',(∀w,WgAt E.ty E.Wg w ((v:Int)*KK) 0→stepG E.P true g w= .go g' w #[rd (stA E.Wg)])∧Iy g'
def de.W1(E:de ι)(Fin:Goroutine→Prop):Nat→Goroutine→Prop
 |0,g=>g.status= .running∧∃g',(∀w,WgAt E.ty E.Wg w 0 0→stepG E.P true g w= .go g' w #[rd (stA E.Wg)])∧E.pw (E.Ke Fin) g'
 |b+1,g=>g.status= .running∧(∃g',(∀w,WgAt E.ty E.Wg w 0 0→stepG E.P true g w= .go g' w #[rd (stA E.Wg)])∧E.pw (E.Ke Fin) g')∧
  ∀v,1≤v→v≤b+1→∃g',(∀w,WgAt E.ty E.Wg w ((v:Int)*KK) 0→stepG E.P true g w= .go g' w #[rd (stA E.Wg)])∧E.pw (E.W2 Fin (E.pw (E.W1 Fin b)) v) g'
def de.Kd(g:Goroutine):Prop:=g.status= .running∧∃g',(∀w,stepG E.P true g w= .go g' w #[said .disable])∧E.pw (E.W1 Fin E.max) g'
abbrev de.pm(Stop:Goroutine→Prop)(n:Nat)(g:Goroutine):Prop:=Pure E.P true E.jK.live Stop n g
def de.mat(g:Goroutine)(n:Nat):CK→Prop
 | .kd=>E.pm (E.Kd Fin) n g
 | .w1 b=>E.pm (E.W1 Fin b) n g
 | .w2 b vs=>E.pm (E.W2 Fin (E.pw (E.W1 Fin b)) vs) n g
 | .wr=>E.pm (E.Wr Fin) n g
 | .w3=>∃m,n=m+1∧E.pm (E.W3 Fin) m g
 | .blk=>n=0∧∃fZ,E.W3 Fin fZ∧g={fZ with status:= .blocked}
 | .w4=>E.pm (E.W4 Fin) n g
 | .ke=>E.pm (E.Ke Fin) n g
 | .aq=>E.pm (E.Aq Fin) n g
 | .run _=>False
end
end
section
variable {ι:Type} {E:de ι}
theorem D8(l1:List ι)(Stop:Goroutine→St→Prop){g:Goroutine}(hs:g.status= .running)
 (h:∀w,aZ s w→∃g' w' es s',stepG E.P false g w= .go g' w' es∧g'.status= .running∧(Trans s w s' w' es∨IB E l1 s w s' w' es)∧mP E l1 Stop g' s'):mP E l1 Stop g s:=by
 have key:∀w,∃tr,aZ s w→∃g' w' es s',stepG E.P false g w= .go g' w' es∧g'.status= .running∧(Trans s w s' w' es∨IB E l1 s w s' w' es)∧nY E l1 Stop tr g' s':=fun w=>by
  by_cases ha:aZ s w
  ·obtain⟨g',w',es,s',h1,h2,h3,tr,dO,hl,h4⟩:=h w ha
   refine⟨tr,fun _=>⟨g',w',es,dO,h1,h2,?_,h4⟩⟩
   rcases h3 with h3| ⟨v,X,Y,c,k1,k2,k3,k4,k5,k6,k7,k8,k9⟩
   ·exact .inl (h3.le hl)
   exact .inr ⟨v,X,Y,c,k1,k2,k3,k4,k5,k6,k7,k8,hl.trans k9⟩
  exact⟨.leaf,fun qp=>absurd qp ha⟩
 exact⟨.node fun w=>(key w).choose,s,St.le_refl s,hs,fun w ha=>(key w).choose_spec ha⟩
theorem nG(l1:List ι)(Stop:Goroutine→St→Prop):Closed E.P false (mP E l1 Stop) where
 step:=fun g s hs h=>D8 l1 Stop hs fun w ha=>let ⟨g',w',es,s',h1,h2,h3,h4⟩:=h w ha;⟨g',w',es,s',h1,h2,.inl h3,h4⟩
 mono:=fun g s s' hl ⟨tr,dO,h,ht⟩=>⟨tr,dO,h.trans hl,ht⟩
theorem mP.stop{l1:List ι}{g:Goroutine}(h:Stop g s):mP E l1 Stop g s:=⟨.leaf,s,St.le_refl s,h⟩
theorem nY.running{l1:List ι}(hS:∀g s,Stop g s→g.status= .running):∀ {tr:Tree} {g:Goroutine} {s:St},nY E l1 Stop tr g s→g.status= .running
 | .leaf,_,_,h=>hS _ _ h
 | .node _,_,_,h=>h.1
end
section
variable {ι:Type} {E:de ι} {t u:Trace} {i j:Nat} {s:St} {g:Goroutine}
theorem de.pu.running{x:aJ}(h:E.pu (E.M.At E.Mu x cs) n g):g.status= .running:=Pure.running (fun _ y=>(E.M.running y).1) h
theorem de.Stp.running:∀ {os:List ι},E.Stp os g s→g.status= .running
 | [],h=>eH.pure.running (fun _ y=>y.1) h
 |_::_,⟨_,_,_,h,_⟩=>de.pu.running h
theorem de.So.running{Next:Goroutine→St→Prop}{k:Nat}(h:E.So Next k g s):g.status= .running:=by
 obtain⟨_,_,_,_,h,_⟩:=h
 exact de.pu.running h
theorem wh.app{Hb:Nat}(h:wh Hb t i)(hu:∀op∈u,op.g=i∨∀x,op.act.touch?=some x→¬ko Hb x.loc):wh Hb (t++u) i:=fun p x hx hh=>by
 rcases aI hx with ⟨_,h'⟩| ⟨_,op,hm,ho,oK⟩
 ·exact(h p x h' hh).app u
 rcases hu op hm with e|e
 ·have:=knows_own ho;rwa[e] at this
 exact absurd hh (e x oK)
theorem fI.other{r:ai ι}(h:fI E t j s g r)(hu:∀op∈u,op.g≠j)(hh:r.ep=true→∀op∈u,∀x,op.act.touch?=some x→¬ko E.Hb x.loc):fI E (t++u) j s g r:=by
 have hd:=eP t u hu
 cases r with
 |leave q d cur=>exact⟨h.1,h.2.1,by rw[hd];exact h.2.2.1,fun hc=>let ⟨r,hr⟩:=h.2.2.2.1 hc;⟨r,RelBy.other hr hu⟩,fun hc=>(h.2.2.2.2 hc).other hu⟩
 |work o tr=>exact⟨by rw[hd];exact h.1,h.2⟩
 |lk x n o os=>exact⟨h.1,h.2.1,by rw[hd];exact h.2.2.1,h.2.2.2⟩
 |qE o os l tr=>exact⟨by rw[hd];exact h.1,h.2.1.app fun op av=> .inr (hh rfl op av),h.2.2⟩
 |post os tr=>exact⟨by rw[hd];exact h.1,h.2⟩
 |ul x n os=>exact⟨h.1,h.2.1,by rw[hd];exact h.2.2.1,h.2.2.2⟩
 |st k n=>exact⟨h.1,by rw[hd];exact h.2.1,h.2.2.1,fun hc=>let ⟨r,hr⟩:=h.2.2.2 hc;⟨r,RelBy.other hr hu⟩⟩
theorem fI.running{r:ai ι}(h:fI E t j s g r):(g.status= .running∨g.status= .finished)∨(∃x o os,r= .lk x 0 o os∧x.zm=true∧∃fZ c cs,E.M.At E.Mu x (c::cs) fZ∧g={fZ with status:= .blocked}):=by
 cases r with
 |leave q d cur=>exact .inl h.2.1.status
 |work o tr=>exact .inl (.inl (lF.running (fun _ _ x=>de.Stp.running x) h.2))
 |lk x n o os=>
  obtain⟨_,_,_,c,cs,_,h1| ⟨rfl,h2,fZ,h3,h4⟩⟩:=h
  ·exact .inl (.inl (de.pu.running h1))
  exact .inr ⟨x,o,os,rfl,h2,fZ,c,cs,h3,h4⟩
 |qE o os l tr=>exact .inl (.inl (nY.running (fun _ _ x=>de.So.running x) h.2.2.2))
 |post os tr=>obtain⟨_,_,h⟩:=h;exact .inl (.inl (nY.running (fun _ _ x=>de.So.running x) h))
 |ul x n os=>
  obtain⟨_,_,_,c,cs,h1,_⟩:=h
  exact .inl (.inl (de.pu.running h1))
 |st k n=>exact .inl (.inl (Pure.running (WK.running k) h.2.2.1))
theorem again_blocked{fZ:Goroutine}(h1:fZ.status= .running)(h2:fZ.offers=none)(w:World):({fZ with status:= .blocked}:Goroutine).again w=fZ:=by
 obtain⟨f,cs,stt,dy,of⟩:=fZ
 simp only at h1 h2
 subst h1 h2
 simp[Goroutine.again]
theorem fI.woken{r:ai ι}(h:fI E t j s g r)(a a':Goroutine)(w':World):fI E t j s (woken E.P a a' w' g) r:=by
 rcases h.running with hs| ⟨x,o,os,rfl,hx,fZ,_,_,auA,hg0⟩
 ·have:Go.Conc.woken E.P a a' w' g=g:=by
   unfold Go.Conc.woken
   split
   ·exact again_running _ hs
   rfl
  rw[this];exact h
 obtain⟨h1,h2,h3,c,cs,h4,h5⟩:=h
 refine⟨h1,h2,h3,c,cs,h4,?_⟩
 rcases h5 with h5| ⟨_,_,bk,cb,hg⟩
 ·have hs:=de.pu.running h5
  have:Go.Conc.woken E.P a a' w' g=g:=by
   unfold Go.Conc.woken
   split
   ·exact again_running _ (.inl hs)
   rfl
  rw[this];exact .inl h5
 obtain⟨e1,e2⟩:=E.M.running cb
 unfold Go.Conc.woken
 split
 ·rw[hg,again_blocked e1 e2];exact .inl cb
 exact .inr ⟨rfl,hx,bk,cb,hg⟩
theorem Bg{P:Program}{a a':Goroutine}(h1:mayWake P a=true)(h2:a'.status= .running∨a'.status= .finished){r:ai ι}(h:fI E t j s g r):(Go.Conc.woken P a a' w' g).status≠ .blocked:=by
 have hc:(mayWake P a&&a'.status != .blocked&&a'.status != .waiting)=true:=by rcases h2 with h2|h2<;>simp[h1,h2]
 have e:Go.Conc.woken P a a' w' g=g.again w':=by unfold Go.Conc.woken;rw[if_pos hc]
 rw[e]
 rcases h.running with hs| ⟨x,o,os,rfl,hx,fZ,_,_,auA,hg0⟩
 ·rw[again_running _ hs];rcases hs with hs|hs<;>rw[hs]<;>simp
 obtain⟨e1,e2⟩:=E.M.running auA
 rw[hg0,again_blocked e1 e2,e1];simp
theorem iC.refl(w:World):iC w w:=⟨OsLater.refl _,rfl⟩
theorem iC.P8{w:World}{es:Array Event}(h:Trans s w s' w' es):iC w w':=⟨by rw[h.os];exact OsLater.refl _,h.output⟩
structure jM(E:de ι)(L:Nat→Option Obj)(K:Nat→St)(gs:Array Goroutine)(w:World)(t:Trace)(D:List (ai ι)):Prop where
 fit:Fit L K w t
 size:gs.size=D.length+1
 ok:∀i r,D[i]?=some r→∃g,gs[i+1]?=some g∧fI E t (i+1) (K (i+1)) g r
 RN:∀i,gs.size≤i→∀b,¬(K i).knows b
 ops:∀op∈t,op.g <gs.size
 same:OsLater E.os w.os∧w.output=E.out
theorem jM.step{L L':Nat→Option Obj}{K:Nat→St}{gs:Array Goroutine}{w:World}{D:List (ai ι)}(h:jM E L K gs w t D){i:Nat}{r':ai ι}(hi:i <D.length){g':Goroutine} 
 (hu:∀op∈u,op.g=i+1)(AD:iC w w')(jP:Fit L' (dL K (i+1) s') w' (t++u))(hr:fI E (t++u) (i+1) s' g' r')
 (hh:∀k r,k≠i→D[k]?=some r→r.ep=true→∀op∈u,∀x,op.act.touch?=some x→¬ko E.Hb x.loc):
 jM E L' (dL K (i+1) s') ((gs.map (woken E.P g g' w')).setIfInBounds (i+1) g') w' (t++u) (D.set i r'):=by
 refine⟨jP,by simp[h.size],fun k r hk=>?_,fun k hk=>?_,fun op av=>?_,⟨h.same.1.trans AD.1,AD.2.trans h.same.2⟩⟩
 ·by_cases e:k=i
  ·subst e
   have mz:r=r':=by simpa [List.getElem?_set,hi] using hk.symm
   subst mz
   exact⟨g',by simp[h.size,hi],by rw[au];exact hr⟩
  rw[List.getElem?_set_ne (Ne.symm e)] at hk
  obtain⟨x,hx,bF⟩:=h.ok k r hk
  have cF:k+1≠i+1:=by omega
  rw[aA K s' cF]
  exact⟨_,dW cF hx,(bF.other (u:=u) (fun op av=>by rw[hu op av];omega) (hh k r e hk)).woken _ _ _⟩
 ·rw[Array.size_setIfInBounds,Array.size_map] at hk
  rw[aA K s' (by have:=h.size;omega)]
  exact h.RN k hk
 rw[Array.size_setIfInBounds,Array.size_map]
 rcases Array.mem_append.1 av with h'|h'
 ·exact h.ops op h'
 rw[hu op h',h.size];omega
abbrev cG(f:ai ι→Nat)(D:List (ai ι)):Nat:=fA f D
def fq(D:List (ai ι)):List ι:=D.flatMap ai.tT
abbrev rQ:=Option (CK×Nat)
inductive EX:rQ→rQ→Prop
 |same (c:rQ):EX c c
 |up:EX (some (.blk,0)) (some (.w3,1))
theorem Md.Ey{a c:Nat}{cl cl':rQ}(h:Md mx n a b c (cl.map (·.1)) st sm)(hw:EX cl cl'):Md mx n a b c (cl'.map (·.1)) st sm:=by
 cases hw with
 |same=>exact h
 |up=>
  simp only[Option.map_some] at h ⊢
  cases h with
  |reg _ h2=>exact .reg trivial h2
  |l4 _=>exact .l4 trivial
  |l3 _=>exact .l3 trivial
  |l2 _=>exact .l2 trivial
  |sema _ h2=>exact absurd rfl h2
  |over h1=>exact h1.elim
variable (E) in
def mL(Fin:Goroutine→Prop)(main:Goroutine)(d0:Nat):rQ→Prop
 |none=>main.status= .running
 |some (c,n)=>E.mat Fin main n c∧d0=c.deaf
variable {Fin:Goroutine→Prop}
theorem de.mat.running:∀ {c:CK},E.mat Fin g n c→c≠ .blk→g.status= .running
 | .kd,h,_=>Pure.running (fun _ x=>x.1) h
 | .w1 b,h,_=>Pure.running (fun _ x=>by cases b<;>exact x.1) h
 | .w2 _ _,h,_=>Pure.running (fun _ x=>x.1) h
 | .wr,h,_=>Pure.running (fun _ x=>x.1) h
 | .w3,⟨_,_,h⟩,_=>Pure.running (fun _ x=>x.1) h
 | .blk,_,h=>absurd rfl h
 | .w4,h,_=>Pure.running (fun _ x=>x.1) h
 | .ke,h,_=>Pure.running (fun _ x=>x.1) h
 | .aq,h,_=>Pure.running (fun _ x=>x.1) h
 | .run _,h,_=>h.elim
theorem mL.tries{main:Goroutine}{d0:Nat}{cl:rQ}(h:mL E Fin main d0 cl)(a a':Goroutine)(w':World):
 ∃cl',EX cl cl'∧mL E Fin (woken E.P a a' w' main) d0 cl'∧(mayWake E.P a=true→(a'.status= .running∨a'.status= .finished)→cl'.map (·.1)≠some .blk)∧(main.status= .running→woken E.P a a' w' main=main)∧(cl=none↔cl'=none):=by
 have bx:main.status= .running→woken E.P a a' w' main=main:=fun hs=>by
  unfold Go.Conc.woken
  split
  ·exact again_running _ (.inl hs)
  rfl
 match cl,h with
 |none,h=>exact⟨none,.same _,by show (Go.Conc.woken _ _ _ _ _).status=_;rw[bx h];exact h,by simp,bx,Iff.rfl⟩
 |some (c,n),⟨h,hd⟩=>
  by_cases hb:c= .blk
  ·subst hb
   obtain⟨rfl,fZ,hg,rfl⟩:=h
   by_cases hw:(mayWake E.P a&&a'.status != .blocked&&a'.status != .waiting)=true
   ·refine⟨some (.w3,1),.up,⟨⟨0,rfl,?_⟩,hd⟩,by simp,bx,by simp⟩
    have:Go.Conc.woken E.P a a' w' {fZ with status:= .blocked}=fZ:=by
     unfold Go.Conc.woken
     rw[if_pos hw];exact again_blocked hg.1 hg.2.1 w'
    rw[this];exact hg
   refine⟨some (.blk,0),.same _,⟨⟨rfl,fZ,hg,by simp[Go.Conc.woken,hw]⟩,hd⟩,fun h1 h2=>absurd ?_ hw,bx,by simp⟩
   rcases h2 with h2|h2<;>simp[h1,h2]
  refine⟨some (c,n),.same _,⟨?_,hd⟩,fun _ _=>by simpa using hb,bx,by simp⟩
  rw[bx (de.mat.running h hb)];exact h
def ai.mu(w:Wd):ai ι→Nat×Tree×Nat
 | .leave q _ _=>(0,.leaf,q)
 | .st k n=>(k.fO,.leaf,n)
 | .work _ tr=>(105,tr,0)
 | .lk x n _ _| .ul x n _=>(2*x.fO w+7,.leaf,n)
 | .qE _ _ _ tr=>(18,tr,0)
 | .post _ tr=>(17,tr,0)
def n8(w:Wd)(a b:ai ι):Prop:=w9 (a.mu w) (b.mu w)
theorem n8.wf(w:Wd):WellFounded (n8 (ι:=ι) w):=InvImage.wf (ai.mu w) w9.wf
structure GM(ι:Type) where
 D:List (ai ι)
 o:Wd
 m:Nat
 c:Nat×Tree×Nat
 r:Nat
def xL(D:List (ai ι))(m:Nat):Nat:=fA aJ.Cf (D.map ai.lT)+2*m
def GM.P(a:GM ι):Nat:=xL a.D a.m
inductive wN:GM ι→GM ι→Prop
 |p {a b:GM ι}:a.P <b.P→wN a b
 |d {a b:GM ι}:a.P≤b.P→a.o=b.o→One (n8 a.o) a.D b.D→wN a b
 |c {a b:GM ι}:a.P≤b.P→a.o=b.o→a.D=b.D→w9 a.c b.c→wN a b
 |r {a b:GM ι}:a.P≤b.P→a.o=b.o→a.D=b.D→a.c=b.c→a.r <b.r→wN a b
theorem wN.wf:WellFounded (wN (ι:=ι)):=by
 refine⟨fun a=>?_⟩
 generalize hP:a.P=P
 induction P using Nat.strongRecOn generalizing a with
 |_ P ih=>
  obtain⟨D,o,m,c,r⟩:=a
  have key:∀D,∀c,∀r,∀m,(GM.mk D o m c r).P≤P→Acc wN (GM.mk (ι:=ι) D o m c r):=by
   intro D
   induction D using (One.wf (n8.wf o)).induction with
   |_ D ihD=>
    intro c
    induction c using w9.wf.induction with
    |_ c ihc=>
     intro r
     induction r using Nat.strongRecOn with
     |_ r ihr=>
      intro m hle
      refine⟨_,fun y hy=>?_⟩
      obtain⟨D',o',m',c',r'⟩:=y
      cases hy with
      |p h=>exact ih _ (by omega) _ rfl
      |d h1 h2 h3=>simp only at h2 h3;subst h2;exact ihD D' h3 c' r' m' (by omega)
      |c h1 h2 h3 h4=>simp only at h2 h3 h4;subst h2 h3;exact ihc c' h4 r' m' (by omega)
      |r h1 h2 h3 h4 h5=>simp only at h2 h3 h4 h5;subst h2 h3 h4;exact ihr r' h5 m' (by omega)
  exact key D c r m (by omega)
def gr(mx:Nat):rQ→Nat×Tree×Nat
 |none=>(0,.leaf,0)
 |some (c,n)=>(c.phi mx,c.tree,n)
def runN(gs:Array Goroutine):Nat:=fA (fun g=>if g.status= .running then 1 else 0) gs.toList
end
section
variable {ι:Type} {E:de ι} {Fin:Goroutine→Prop}
def LQ(a:Addr)(t:Trace)(p:Nat):Prop:=∃r,t.act? r=some (.mark (.releaseMerge a))∧t.heard r∧Before t p r
theorem LQ.app{a:Addr}{t:Trace}{p:Nat}(h:LQ a t p)(u:Trace):LQ a (t++u) p:=by
 obtain⟨r,h1,h2,h3⟩:=h
 have hr:=lt_of_act? h1
 exact⟨r,by rw[act?_old hr];exact h1,(heard_old hr).2 h2,h3.app u⟩
variable (E) in
def aSM(n:Nat)(t:Trace)(D:List (ai ι))(p:Nat):Prop:=(Knows t 0 p∧∀(k:Nat) (r:ai ι),D[k]?=some r→r.left=false→Knows t (k+1) p)∨LQ (stA E.Mu) t p∨∃(i:Nat) (r:ai ι),D[i]?=some r∧r.tok=true∧Knows t (i+1) p
variable (E) in
def Yv(X:List (Nat×Obj))(x:Touch):Prop:=(∃b o,(b,o)∈X∧blk x.loc=some b)∨ko E.Hb x.loc
variable (E) in
def Guard(L0 L:Nat→Option Obj)(K:Nat→St)(n:Nat)(w:World)(t:Trace)(D:List (ai ι))(l:List ι):Prop:=
 (∃(i:Nat) (o:ι) (os:List ι) (tr:Tree),D[i]?=some (ai.qE o os l tr)∧L=L0)∨
 ((∀(i:Nat) (r:ai ι),D[i]?=some r→r.ep=false)∧∃v X,E.Gd l v X∧(X.map (·.1)).Nodup∧(∀b o,(b,o)∈X→L b=some o∧L0 b=none∧Obj.real o=true∧∀j,¬(K j).knows b)∧(∀b o,L0 b=some o→L b=some o)∧
  w.heap[E.Hb]?=some (E.full v)∧∀p x,touchAt t p=some x→Yv E X x→aSM E n t D p)
def de.At(E:de ι)(x:Touch):Prop:=blk x.loc=some E.Wg∨blk x.loc=some E.Mu
def de.LJ(E:de ι)(l os:List ι):Prop:=l.Perm os∧os.length≤E.mxl
structure s9(E:de ι)(L0 L:Nat→Option Obj)(K:Nat→St)(gs:Array Goroutine)(w:World)(t:Trace)(D:List (ai ι))(pend:Nat)(cl:rQ)(o:Wd)(m:Nat)(l:List ι):Prop where
 kW:∀i,¬(K i).knows E.Wg
 kM:∀i,¬(K i).knows E.Mu
 lW:L E.Wg=none
 lM:L E.Mu=none
 lH:L E.Hb=none
 ne:E.Wg≠E.Mu∧E.Hb≠E.Wg∧E.Hb≠E.Mu
 norel:∀a,NoRelease a t
 plain:∀i,(i=0∨∃k r,i=k+1∧D[k]?=some r∧r.left=false)→∀p x,touchAt t p=some x→E.At x→x.kind= .plain→Knows t i p
 said:∀p x,touchAt t p=some x→blk x.loc=some E.Wg→x.kind= .said→Knows t 0 p
 cells:∃st sm,WgAt E.ty E.Wg w st sm∧Md E.max (cG ai.cnt D+pend) (cG ai.c4 D) (cG ai.c3 D) (cG ai.c2 D) (cl.map (·.1)) st sm
 mX:cG ai.cnt D+pend≤E.max
 mu:MuAt E.tm E.Mu w o.enc (m:Nat)
 mi:l9 (D.map ai.lT) o m
 Qh:m=1→∀i g,gs[i+1]?=some g→g.status≠ .blocked
 bO:E.Hb <w.heap.size
 nH:∀j,¬(K j).owns E.Hb
 Nm:∀j x,(K j).ro E.Hb=some x→x=E.hole∨∃i r,j=i+1∧D[i]?=some r∧r.ep=true
 gu:Guard E L0 L K gs.size w t D l
structure bB(E:de ι)(Fin:Goroutine→Prop)(L0:Nat→Option Obj)(K:Nat→St)(gs:Array Goroutine)(w:World)(t:Trace)(D:List (ai ι))(pend:Nat)(cl:rQ)(o:Wd)(m:Nat)(os:List ι)(main:Goroutine)(d0:Nat):Prop where
 bs:∃L l,jM E L K gs w t D∧s9 E L0 L K gs w t D pend cl o m l∧E.LJ (l++fq D) os
 aCw:gs[0]?=some main
 deaf:Deaf t 0=d0
 mok:mL E Fin main d0 cl
variable {L0 L L':Nat→Option Obj} {K:Nat→St} {gs:Array Goroutine} {w w':World} {t u:Trace} {D:List (ai ι)} {pend d0:Nat} {cl:rQ} {o:Wd} {m:Nat} {l os:List ι} {main:Goroutine} {sl:Option (Nat×Nat)}
 {i:Nat} {r r':ai ι} {g g':Goroutine} {s':St} {es:Array Event}
theorem oM{k:Nat}{x:ai ι}(hk:(D.set i r')[k]?=some x):(k=i∧x=r')∨(k≠i∧D[k]?=some x):=by
 by_cases e:k=i
 ·subst e
  have bO:k <D.length:=by have:=(List.getElem?_eq_some_iff.1 hk).1;simpa using this
  exact .inl ⟨rfl,by simpa [List.getElem?_set,bO] using hk.symm⟩
 rw[List.getElem?_set_ne (Ne.symm e)] at hk;exact .inr ⟨e,hk⟩
theorem uI(hi:D[i]?=some r):(D.set i r')[i]?=some r':=List.getElem?_set_self (List.getElem?_eq_some_iff.1 hi).1
theorem rz{k:Nat}{x:ai ι}(hk:D[k]?=some x) (cF:k≠i):(D.set i r')[k]?=some x:=by rw[List.getElem?_set_ne (Ne.symm cF)];exact hk
theorem Guard.step(h:Guard E L0 L K n w t D l)(hi:D[i]?=some r) (hc:r.ep=false) (uZ:r'.ep=false) (sE:r'.left=false→r.left=false)
 (afj:r.tok=true→r'.tok=true∨∀p,Knows t (i+1) p→LQ (stA E.Mu) (t++u) p) (hk:∀b,L b≠none→¬(K (i+1)).knows b→¬s'.knows b) (hH:w'.heap[E.Hb]?=w.heap[E.Hb]?)
 (hnt:∀op∈u,∀x,op.act.touch?=some x→¬ko E.Hb x.loc∧∀b,blk x.loc=some b→L b≠none→(K (i+1)).knows b):Guard E L0 L (dL K (i+1) s') n w' (t++u) (D.set i r') l:=by
 rcases h with ⟨j,o,os,tr,hj,rfl⟩| ⟨tL,v,X,h1,h2,h3,h4,h5,h6⟩
 ·have cF:j≠i:=fun e=>by subst e;rw[hi] at hj;cases hj;cases hc
  exact .inl ⟨j,o,os,tr,rz hj cF,rfl⟩
 refine .inr ⟨fun k x hx=>?_,v,X,h1,h2,fun b o hb=>⟨(h3 b o hb).1,(h3 b o hb).2.1,(h3 b o hb).2.2.1,fun j=>?_⟩,h4,by rw[hH];exact h5,fun p x hx hg=>?_⟩
 ·rcases oM hx with ⟨_,rfl⟩| ⟨_,iM⟩
  ·exact uZ
  exact tL k x iM
 ·by_cases e:j=i+1
  ·subst e;rw[au];exact hk b (by rw[(h3 b o hb).1];simp) ((h3 b o hb).2.2.2 _)
  rw[aA _ _ e];exact(h3 b o hb).2.2.2 j
 have iM:touchAt t p=some x:=by
  rcases aI hx with ⟨_,h'⟩| ⟨_,op,hm,_,oK⟩
  ·exact h'
  obtain⟨k1,k2⟩:=hnt op hm x oK
  rcases hg with ⟨b,o,hb,OG⟩|hh
  ·exact absurd (k2 b OG (by rw[(h3 b o hb).1];simp)) ((h3 b o hb).2.2.2 _)
  exact absurd hh k1
 rcases h6 p x iM hg with h7|h7| ⟨j,y,hj,hy,bR⟩
 ·refine .inl ⟨h7.1.app u,fun k y hk hy=>?_⟩
  rcases oM hk with ⟨rfl,rfl⟩| ⟨_,iU⟩
  ·exact(h7.2 k r hi (sE hy)).app u
  exact(h7.2 k y iU hy).app u
 ·exact .inr (.inl (h7.app u))
 by_cases e:j=i
 ·subst e;rw[hi] at hj;cases hj
  rcases afj hy with h8|h8
  ·exact .inr (.inr ⟨j,r',uI hi,h8,bR.app u⟩)
  exact .inr (.inl (h8 p bR))
 exact .inr (.inr ⟨j,y,rz hj e,hy,bR.app u⟩)
theorem Guard.inside{it:ι}{ls l':List ι}{tr tr':Tree}(h:Guard E L0 L K n w t D l)(hi:D[i]?=some (.qE it ls l' tr)):Guard E L0 L (dL K (i+1) s') n w' (t++u) (D.set i (.qE it ls l tr')) l∧L=L0:=by
 rcases h with ⟨j,o,os,tr,hj,rfl⟩| ⟨tL,_⟩
 ·by_cases e:j=i
  ·subst e;rw[hi] at hj;cases hj;exact⟨.inl ⟨j,it,ls,tr',uI hi,rfl⟩,rfl⟩
  exact⟨.inl ⟨j,o,os,tr,rz hj e,rfl⟩,rfl⟩
 have:=tL i _ hi;cases this
def jV(E:de ι)(Fin:Goroutine→Prop)(L0:Nat→Option Obj)(K:Nat→St)(D:List (ai ι))(pend:Nat)(cl:rQ)(o:Wd)(m:Nat)(os:List ι)(main:Goroutine)(d0:Nat)(gs:Array Goroutine)(w:World)(sl:Option (Nat×Nat))(t:Trace)(i:Nat):Prop:=
 ∃K' e8 w' u D' cl' o' m' main',runT E.P (crowd gs w sl) i=(.next (crowd e8 w' sl),u)∧bB E Fin L0 K' e8 w' (t++u) D' pend cl' o' m' os main' d0∧K' 0=K 0∧(main.status= .running→main'=main)∧(cl=none↔cl'=none)∧cG ai.cnt D'≤cG ai.cnt D∧
  wN ⟨D',o',m',gr E.max cl',runN e8⟩ ⟨D,o,m,gr E.max cl,runN gs⟩
theorem bB.go(hb:jM E L K gs w t D)(hs:s9 E L0 L K gs w t D pend cl o m l)(hp:E.LJ (l++fq D) os)(hm:gs[0]?=some main) (hd:Deaf t 0=d0) (cJ:mL E Fin main d0 cl)
 (hi:D[i]?=some r) (hg:gs[i+1]?=some g) (hgo:stepG E.P false g w= .go g' w' es) (hu:u=MemOp.ofEvents (i+1) g.frame.fn g.frame.place es) (AD:iC w w')
 (cR:¬s'.knows E.Wg) (ql:¬s'.knows E.Mu) (hsH:¬s'.owns E.Hb) (hsh:∀x,s'.ro E.Hb=some x→x=E.hole∨r'.ep=true)
 (nP:E.Hb <w'.heap.size) (hLW:L' E.Wg=none) (hLM:L' E.Mu=none) (hLH:L' E.Hb=none)
 (jP:Fit L' (dL K (i+1) s') w' (t++u)) (hr:fI E (t++u) (i+1) s' g' r')
 (jE:∀op∈u,∀x,op.act.touch?=some x→E.At x→x.kind= .atomic) (fp:∀op∈u,∀a,op.act≠ .mark (.release a)) (sE:r'.left=false→r.left=false)
 (XF:r.ep=false→∀k y,k≠i→D[k]?=some y→y.ep=true→∀op∈u,∀x,op.act.touch?=some x→¬ko E.Hb x.loc)
 (qn:r'.cnt≤r.cnt)
 (fB:∀cl':rQ,EX cl cl'→(cl=none↔cl'=none)→(mayWake E.P g=true→(g'.status= .running∨g'.status= .finished)→cl'.map (·.1)≠some .blk)→
  ∃st sm,WgAt E.ty E.Wg w' st sm∧Md E.max (cG ai.cnt (D.set i r')+pend) (cG ai.c4 (D.set i r')) (cG ai.c3 (D.set i r')) (cG ai.c2 (D.set i r')) (cl'.map (·.1)) st sm)
 {o':Wd} {l':List ι} (zp:MuAt E.tm E.Mu w' o'.enc (m':Nat)) (OI:l9 ((D.set i r').map ai.lT) o' m')
 (Nt:m'=1→(m=1∨mayWake E.P g=true)∧(g'.status= .running∨g'.status= .finished))
 (hgu:Guard E L0 L' (dL K (i+1) s') gs.size w' (t++u) (D.set i r') l') (QU:(l'++fq (D.set i r')).Perm (l++fq D))
 (KP:xL (D.set i r') m' <xL D m∨(xL (D.set i r') m'≤xL D m∧o'=o∧n8 o r' r)):
 jV E Fin L0 K D pend cl o m os main d0 gs w sl t (i+1):=by
 have wX:∀op∈u,op.g=i+1:=by rw[hu];exact fun op av=>Go.ConcR.g_of_ofEvents op av
 have bx:runT E.P (crowd gs w sl) (i+1)=(.next (crowd ((gs.map (woken E.P g g' w')).setIfInBounds (i+1) g') w' sl),u):=by rw[hu];exact runT_crowd_go (P:=E.P) (sl:=sl) (i:=i+1) hg (by simpa using hgo)
 have bO:=(List.getElem?_eq_some_iff.1 hi).1
 have uniq:∀k y,k≠i→D[k]?=some y→y.ep=true→r.ep=false:=fun k y cF hk hy=>by
  cases hrc:r.ep with
  |false=>rfl
  |true=>
   exfalso
   have e1:(D.map ai.lT)[k]?=some y.lT:=by rw[List.getElem?_map,hk];rfl
   have e2:(D.map ai.lT)[i]?=some r.lT:=by rw[List.getElem?_map,hi];rfl
   exact cF (hs.mi.one e1 e2 (by cases y<;>first|rfl|cases hy) (by cases r<;>first|rfl|cases hrc))
 have KV:=hb.step (g:=g) (r':=r') bO wX AD jP hr fun k y cF hk hy=>XF (uniq k y cF hk hy) k y cF hk hy
 obtain⟨cl',tI,aCv,U2,QQ,hnn⟩:=cJ.tries g g' w'
 have zr:∀b,¬s'.knows b→(∀j,¬(K j).knows b)→∀j,¬(dL K (i+1) s' j).knows b:=fun b h1 h2 j=>by
  by_cases e:j=i+1
  ·subst e;rw[au];exact h1
  rw[aA _ _ e];exact h2 j
 have old:∀p x,touchAt (t++u) p=some x→E.At x→x.kind≠ .atomic→touchAt t p=some x:=fun p x hx hb hk=>by
  rcases aI hx with ⟨_,h'⟩| ⟨_,op,hm,_,oK⟩
  ·exact h'
  exact absurd (jE op hm x oK hb) hk
 have afZ:((gs.map (woken E.P g g' w')).setIfInBounds (i+1) g').size=gs.size:=by simp
 refine⟨_,_,w',u,_,cl',o',m',_,bx,⟨⟨L',l',KV,⟨zr _ cR hs.kW,zr _ ql hs.kM,hLW,hLM,hLH,hs.ne,fun a=>(hs.norel a).app fun op av=>fp op av a,fun j hj p x hx hb hk=>?_,fun p x hx hb hk=>(hs.said p x (old p x hx (.inl hb) (by rw[hk];simp)) hb hk).app u,
  fB cl' tI hnn U2,?_,zp,OI,fun mh k x hx=>?_,nP,fun j=>?_,fun j x hx=>?_,by rw[afZ];exact hgu⟩,⟨QU.trans hp.1,hp.2⟩⟩,?_,?_,aCv⟩,aA _ _ (by omega),QQ,hnn,?_,?_⟩
 ·refine(hs.plain j ?_ p x (old p x hx hb (by rw[hk];simp)) hb hk).app u
  rcases hj with hj| ⟨k,y,rfl,iU,hl⟩
  ·exact .inl hj
  rcases oM iU with ⟨rfl,rfl⟩| ⟨_,afV⟩
  ·exact .inr ⟨_,r,rfl,hi,sE hl⟩
  exact .inr ⟨k,y,rfl,afV,hl⟩
 ·have:=eT ai.cnt (y:=r') hi
  have h2:=hs.mX
  simp only[cG] at*
  omega
 ·obtain⟨h1,h2⟩:=Nt mh
  by_cases e:k=i
  ·subst e
   rw[Array.getElem?_setIfInBounds_self_of_lt (by simpa using lt_size hg)] at hx
   cases hx
   rcases h2 with h2|h2<;>rw[h2]<;>simp
  have atV:k <D.length:=by have h3:=lt_size hx;have:=hb.size;simp at h3;omega
  obtain⟨y,hy,bF⟩:=hb.ok k _ (List.getElem?_eq_getElem atV)
  rw[dW (by omega) hy] at hx
  cases hx
  rcases h1 with h1|h1
  ·have h3:=hs.Qh h1 k y hy
   have:Go.Conc.woken E.P g g' w' y=y:=by
    unfold Go.Conc.woken
    split
    ·rcases bF.running with h4| ⟨_,_,_,_,_,fZ,_,_,_,h5⟩
     ·exact again_running _ h4
     rw[h5] at h3;exact absurd rfl h3
    rfl
   rw[this];exact h3
  exact Bg h1 h2 bF
 ·by_cases e:j=i+1
  ·subst e;rw[au];exact hsH
  rw[aA _ _ e];exact hs.nH j
 ·by_cases e:j=i+1
  ·subst e;rw[au] at hx
   exact(hsh x hx).imp id fun h=>⟨i,r',rfl,uI hi,h⟩
  rw[aA _ _ e] at hx
  rcases hs.Nm j x hx with h1| ⟨k,y,rfl,hk,hy⟩
  ·exact .inl h1
  exact .inr ⟨k,y,rfl,rz hk (by omega),hy⟩
 ·rw[dW (by omega) hm]
 ·rw[eP _ _ fun op av=>by rw[wX op av];omega];exact hd
 ·have:=eT ai.cnt (y:=r') hi
  simp only[cG];omega
 rcases KP with h1| ⟨h1,h2,h3⟩
 ·exact .p h1
 exact .d h1 h2 (by simp only;rw[h2];exact One.set hi h3)
end
section
variable {ι:Type} {E:de ι} {Fin:Goroutine→Prop}
variable {L0 L L':Nat→Option Obj} {K:Nat→St} {gs:Array Goroutine} {w w':World} {t u:Trace} {D:List (ai ι)} {pend d0:Nat} {cl:rQ} {o:Wd} {m:Nat} {l os:List ι} {main:Goroutine} {sl:Option (Nat×Nat)}
 {i:Nat} {r r':ai ι} {g g':Goroutine} {s':St} {es:Array Event}
theorem ajB{α:Type}{l:List α}{i:Nat}{x:α}(h:l[i]?=some x):l.set i x=l:=by
 obtain⟨hl,rfl⟩:=List.getElem?_eq_some_iff.1 h;simp
theorem akJ(hl:r'.lT=r.lT)(hi:D[i]?=some r):(D.set i r').map ai.lT=D.map ai.lT:=by
 rw[List.map_set,hl]
 have:(D.map ai.lT)[i]?=some r.lT:=by rw[List.getElem?_map,hi];rfl
 exact ajB this
theorem pR(hi:D[i]?=some r) (r':ai ι) (m:Nat):xL (D.set i r') m+r.lT.Cf=xL D m+r'.lT.Cf:=by
 have:(D.map ai.lT)[i]?=some r.lT:=by rw[List.getElem?_map,hi];rfl
 have:=eT aJ.Cf (y:=r'.lT) this
 unfold xL
 rw[List.map_set];omega
theorem auS(D:List (ai ι))(m m':Nat):xL D m'+2*m=xL D m+2*m':=by unfold xL;omega
theorem yH:∀ {D:List (ai ι)} {i:Nat},D[i]?=some r→(fq (D.set i r')++r.tT).Perm (fq D++r'.tT)
 | [],i,h=>by simp at h
 |a::D,0,h=>by
  simp only[List.getElem?_cons_zero,Option.some.injEq] at h;subst h
  simp only[fq,List.set_cons_zero,List.flatMap_cons]
  have h1:(r'.tT++List.flatMap ai.tT D++a.tT).Perm (a.tT++(r'.tT++List.flatMap ai.tT D)):=List.perm_append_comm
  refine h1.trans ?_
  rw[List.append_assoc]
  exact List.perm_append_comm.append_left _
 |a::D,i+1,h=>by
  have:=yH (D:=D) (i:=i) (by simpa using h)
  simp only[fq,List.set_cons_succ,List.flatMap_cons,List.append_assoc] at this ⊢
  exact this.append_left _
theorem oN(ho:r'.tT=r.tT)(hi:D[i]?=some r):(fq (D.set i r')).Perm (fq D):=by
 have:=yH (r':=r') hi
 rw[ho] at this
 exact(List.perm_append_right_iff _).1 this
theorem sx(f:ai ι→Nat)(hi:D[i]?=some r):f r≤cG f D:=jk f (List.mem_of_getElem? hi)
theorem BO{st4 st3 st2:Nat}{c:Option CK}(hi:D[i]?=some r)
 (e1:n+r.cnt=cG ai.cnt D+pend+r'.cnt) (e4:st4+r.c4=cG ai.c4 D+r'.c4) (e3:st3+r.c3=cG ai.c3 D+r'.c3) (e2:st2+r.c2=cG ai.c2 D+r'.c2) (h:Md mx n st4 st3 st2 c st sm):
 Md mx (cG ai.cnt (D.set i r')+pend) (cG ai.c4 (D.set i r')) (cG ai.c3 (D.set i r')) (cG ai.c2 (D.set i r')) c st sm:=by
 have f1:=eT ai.cnt (y:=r') hi
 have f4:=eT ai.c4 (y:=r') hi
 have f3:=eT ai.c3 (y:=r') hi
 have f2:=eT ai.c2 (y:=r') hi
 simp only[cG] at*
 rw[show fA ai.cnt (D.set i r')+pend=n by omega,show fA ai.c4 (D.set i r')=st4 by omega,show fA ai.c3 (D.set i r')=st3 by omega,show fA ai.c2 (D.set i r')=st2 by omega]
 exact h
theorem s9.fW(h:s9 E L0 L K gs w t D pend cl o m l)(hi:D[i]?=some r) (hw:w'.heap[E.Wg]?=w.heap[E.Wg]?) (h1:r'.cnt=r.cnt) (h4:r'.c4=r.c4) (h3:r'.c3=r.c3) (h2:r'.c2=r.c2):
 ∀cl':rQ,EX cl cl'→∃st sm,WgAt E.ty E.Wg w' st sm∧Md E.max (cG ai.cnt (D.set i r')+pend) (cG ai.c4 (D.set i r')) (cG ai.c3 (D.set i r')) (cG ai.c2 (D.set i r')) (cl'.map (·.1)) st sm:=by
 intro cl' tI
 obtain⟨st,sm,ha,hm⟩:=h.cells
 exact⟨st,sm,by unfold WgAt;rw[hw];exact ha,BO hi (by omega) (by omega) (by omega) (by omega) (hm.Ey tI)⟩
structure anf(E:de ι)(L:Nat→Option Obj)(s s':St)(w w':World)(u:Trace):Prop where
 nW:¬s'.knows E.Wg
 nM:¬s'.knows E.Mu
 nH:¬s'.owns E.Hb
 ro:∀x,s'.ro E.Hb=some x→s.ro E.Hb=some x
 hW:w'.heap[E.Wg]?=w.heap[E.Wg]?
 hM:w'.heap[E.Mu]?=w.heap[E.Mu]?
 hH:w'.heap[E.Hb]?=w.heap[E.Hb]?
 touch:∀op∈u,∀x,op.act.touch?=some x→¬E.At x
 rel:∀op∈u,∀a,op.act≠ .mark (.release a)
 kn:∀b,L b≠none→¬s.knows b→¬s'.knows b
 tk:∀op∈u,∀x,op.act.touch?=some x→∀b,blk x.loc=some b→L b≠none→s.knows b
 hole:(∀x,s.ro E.Hb=some x→x=E.hole)→∀op∈u,∀x,op.act.touch?=some x→¬ko E.Hb x.loc
 nP:E.Hb <w'.heap.size
theorem s9.q9(h:s9 E L0 L K gs w t D pend cl o m l)(hf:Fit L K w t)(ht:Trans (K j) w s' w' es)(fn:FuncId)(pos:String):anf E L (K j) s' w w' (MemOp.ofEvents j fn pos es):=by
 obtain⟨st,sm,ha,_⟩:=h.cells
 have hW:E.Wg <w.heap.size:=lt_size ha
 have hC:E.Mu <w.heap.size:=lt_size h.mu
 have hLl:∀b,L b≠none→b <w.heap.size:=fun b hb=>by
  cases e:L b with
  |none=>exact absurd e hb
  |some o=>exact lt_size (hf.wW b o e)
 have kn:∀b,b <w.heap.size→¬(K j).knows b→¬s'.knows b:=fun b hb hk iU=>by
  rcases iU with h'|h'
  ·rcases ht.IF b h' with h1|h1|h1
   ·omega
   ·exact hk (.inl (h1▸h'))
   exact hk (.inr h1)
  rcases ht.own b h' with h1|h1
  ·omega
  exact hk (.inr h1)
 have tk:∀op∈MemOp.ofEvents j fn pos es,∀x,op.act.touch?=some x→∀b,blk x.loc=some b→b <w.heap.size→(K j).knows b:=fun op av x hx b hb bO=>by
  obtain⟨_,b',ju,qU,_⟩:=(si ht.tP av).2 x hx
  obtain rfl:b'=b:=by rw[hb] at ju;exact(Option.some.inj ju).symm
  rcases qU with h1|h1|h1
  ·omega
  ·exact .inr h1
  exact .inl h1.2.1
 refine⟨kn _ hW (h.kW j),kn _ hC (h.kM j),fun ho=>?_,fun x hx=>?_,ht.frame _ hW fun ho=>h.kW j (.inr ho),ht.frame _ hC fun ho=>h.kM j (.inr ho),ht.frame _ h.bO (h.nH j),fun op av x hx hb=>?_,fun op av a e=>?_,fun b hb=>kn b (hLl b hb),fun op av x hx b hb hl=>tk op av x hx b hb (hLl b hl),fun my op av x hx hh=>?_,Nat.lt_of_lt_of_le h.bO ht.size⟩
 ·rcases ht.own _ ho with h1|h1
  ·have:=h.bO;omega
  exact h.nH j h1
 ·rcases ht.IF _ (by rw[hx];simp) with h1|h1|h1
  ·have:=h.bO;omega
  ·rw[←h1];exact hx
  exact absurd h1 (h.nH j)
 ·rcases hb with hb|hb
  ·exact h.kW j (tk op av x hx _ hb hW)
  exact h.kM j (tk op av x hx _ hb hC)
 ·rw[ofEvents_eq] at av
  obtain⟨e',he,rfl⟩:=Array.mem_map.1 av
  have hl:=Go.ConcR.loc_of_ofEvent e
  have:=ht.tP e' he
  unfold Fz at this
  rw[hl] at this
  simp[An] at this
 obtain⟨a,ea,e1,e2⟩:=hh
 obtain⟨_,b',ju,qU,_⟩:=(si ht.tP av).2 x hx
 obtain rfl:b'=E.Hb:=by rw[ea] at ju;simp only[blk,Option.some.injEq] at ju;omega
 rcases qU with h1|h1| ⟨_,h1,h2⟩
 ·have:=h.bO;omega
 ·exact h.nH j h1
 cases hr:(K j).ro E.Hb with
 |none=>exact h1 hr
 |some y=>
  have:=my y hr
  subst this
  exact h2 ⟨a,E.hc,E.ht,ea,by rw[e1];exact hr,e2⟩
theorem G0(OI:l9 (D.map ai.lT) o m)(hl:r'.lT=r.lT)(hi:D[i]?=some r):l9 ((D.set i r').map ai.lT) o m:=by rw[akJ hl hi];exact OI
theorem s9.yD(hs:s9 E L0 L K gs w t D pend cl o m l)(hi:D[i]?=some r) (hc:r.ep=false):∀x,(K (i+1)).ro E.Hb=some x→x=E.hole:=fun x hx=>by
 rcases hs.Nm _ x hx with h1| ⟨k,y,e,hk,hy⟩
 ·exact h1
 obtain rfl:k=i:=by omega
 rw[hi] at hk;cases hk;rw[hc] at hy;cases hy
theorem bB.own(hb:jM E L K gs w t D)(hs:s9 E L0 L K gs w t D pend cl o m l)(hp:E.LJ (l++fq D) os)(hm:gs[0]?=some main) (hd:Deaf t 0=d0) (cJ:mL E Fin main d0 cl)
 (hi:D[i]?=some r) (hg:gs[i+1]?=some g) (hgo:stepG E.P false g w= .go g' w' es) (ht:Trans (K (i+1)) w s' w' es) (bx:g'.status= .running)
 (hr:Deaf (t++MemOp.ofEvents (i+1) g.frame.fn g.frame.place es) (i+1)=Deaf t (i+1)→(∀x,s'.ro E.Hb=some x→(K (i+1)).ro E.Hb=some x)→(r.ep=true→wh E.Hb t (i+1)→wh E.Hb (t++MemOp.ofEvents (i+1) g.frame.fn g.frame.place es) (i+1))→fI E (t++MemOp.ofEvents (i+1) g.frame.fn g.frame.place es) (i+1) s' g' r')
 (e1:r'.lT=r.lT) (e2:r'.tT=r.tT) (e3:r'.cnt=r.cnt∧r'.c4=r.c4∧r'.c3=r.c3∧r'.c2=r.c2) (e4:r'.left=r.left) (e5:r'.tok=r.tok) (e6:r'.ep=r.ep)
 (e7:r.ep=true→∃it ls l' tr tr',r= .qE it ls l' tr∧r'= .qE it ls l' tr') (zp:n8 o r' r):
 jV E Fin L0 K D pend cl o m os main d0 gs w sl t (i+1):=by
 have k:=hs.q9 hb.fit ht g.frame.fn g.frame.place
 have hgp:∀op∈MemOp.ofEvents (i+1) g.frame.fn g.frame.place es,op.g=i+1:=fun op av=>Go.ConcR.g_of_ofEvents op av
 refine bB.go hb hs hp hm hd cJ (L':=L) (r':=r') (s':=s') (l':=l) (o':=o) (m':=m) hi hg hgo rfl (iC.P8 ht) k.nW k.nM k.nH (fun x hx=>?_) k.nP hs.lW hs.lM hs.lH (hb.fit.own ht _ _) (hr ?_ k.ro ?_)
  (fun op av x hx iM=>absurd iM (k.touch op av x hx)) k.rel (fun e=>by rw[←e4];exact e) (fun hc k' y cF hk hy=>k.hole (hs.yD hi hc)) (by omega)
  (fun cl' hw _ _=>hs.fW hi k.hW e3.1 e3.2.1 e3.2.2.1 e3.2.2.2 cl' hw) (by unfold MuAt;rw[k.hM];exact hs.mu) (G0 hs.mi e1 hi) (fun h=>⟨.inl h,.inl bx⟩) ?_ ((oN e2 hi).append_left _) (.inr ⟨by have:=pR hi r' m;rw[e1] at this;omega,rfl,zp⟩)
 ·rcases hs.Nm _ x (k.ro x hx) with h1| ⟨k',y,e,hk,hy⟩
  ·exact .inl h1
  obtain rfl:k'=i:=by omega
  rw[hi] at hk;cases hk
  exact .inr (by rw[e6];exact hy)
 ·rw[Deaf_own,ht.deaf]
 ·exact fun _ h=>h.app fun op av=> .inl (hgp op av)
 cases hc:r.ep with
 |false=>exact hs.gu.step hi hc (by rw[e6];exact hc) (fun e=>by rw[←e4];exact e) (fun h=> .inl (by rw[e5];exact h)) k.kn k.hH fun op av x hx=>⟨k.hole (hs.yD hi hc) op av x hx,k.tk op av x hx⟩
 |true=>
  obtain⟨it,ls,l',tr,tr',rfl,rfl⟩:=e7 hc
  have A5:l'=l:=by
   rcases hs.gu with ⟨j,o1,os1,tr1,hj,_⟩| ⟨tL,_⟩
   ·have e1:(D.map ai.lT)[j]?=some (aJ.own os1.length):=by rw[List.getElem?_map,hj];rfl
    have e2:(D.map ai.lT)[i]?=some (aJ.own ls.length):=by rw[List.getElem?_map,hi];rfl
    have:=hs.mi.one e1 e2 rfl rfl
    subst this
    rw[hi] at hj;cases hj;rfl
   have:=tL i _ hi;cases this
  subst A5
  exact(hs.gu.inside hi).1
theorem bB.work(hb:jM E L K gs w t D)(hs:s9 E L0 L K gs w t D pend cl o m l)(hp:E.LJ (l++fq D) os)(hm:gs[0]?=some main) (hd:Deaf t 0=d0) (cJ:mL E Fin main d0 cl) {ls:List ι} {f:World→Tree}
 (hi:D[i]?=some (.work ls (.node f))) (hg:gs[i+1]?=some g):jV E Fin L0 K D pend cl o m os main d0 gs w sl t (i+1):=by
 obtain⟨bk,aN,bF⟩:=hb.ok i _ hi
 obtain rfl:bk=g:=by rw[hg] at aN;exact(Option.some.inj aN).symm
 obtain⟨jN,bE,gz⟩:=bF
 obtain⟨g',w',es,s',h1,h2,h3,h4⟩:=gz w (hb.fit.iX _)
 exact bB.own hb hs hp hm hd cJ (r':= .work ls (f w)) hi hg h1 h3 h2 (fun e _ _=>⟨e.trans jN,h4⟩) rfl rfl ⟨rfl,rfl,rfl,rfl⟩ rfl rfl rfl (fun e=>by cases e) (uy (.mk f w))
theorem bB.still(hb:jM E L K gs w t D)(hs:s9 E L0 L K gs w t D pend cl o m l)(hp:E.LJ (l++fq D) os)(hm:gs[0]?=some main) (hd:Deaf t 0=d0) (cJ:mL E Fin main d0 cl)
 (hi:D[i]?=some r) (hg:gs[i+1]?=some g) (hgo:stepG E.P false g w= .go g' w es) (afK:∀op∈MemOp.ofEvents (i+1) g.frame.fn g.frame.place es,op.act.touch?=none∧∀a,op.act≠ .mark (.release a)) (bx:g'.status= .running∨g'.status= .finished)
 (hr:fI E (t++MemOp.ofEvents (i+1) g.frame.fn g.frame.place es) (i+1) (K (i+1)) g' r')
 (e1:r'.lT=r.lT) (e2:r'.tT=r.tT) (e3:r'.cnt=r.cnt∧r'.c4=r.c4∧r'.c3=r.c3∧r'.c2=r.c2) (e4:r'.left=r.left) (e5:r'.tok=r.tok) (e6:r'.ep=false) (e7:r.ep=false) (zp:n8 o r' r):
 jV E Fin L0 K D pend cl o m os main d0 gs w sl t (i+1):=by
 have nt:∀(P:Touch→Prop),∀op∈MemOp.ofEvents (i+1) g.frame.fn g.frame.place es,∀x,op.act.touch?=some x→P x:=fun P op av x hx=>by rw[(afK op av).1] at hx;cases hx
 refine bB.go hb hs hp hm hd cJ (L':=L) (r':=r') (s':=K (i+1)) (l':=l) (o':=o) (m':=m) hi hg hgo rfl (iC.refl w) (hs.kW _) (hs.kM _) (hs.nH _) (fun x hx=> .inl (hs.yD hi e7 x hx)) hs.bO hs.lW hs.lM hs.lH
  (by rw[fQ];exact hb.fit.quiet E.Wg hs.kW hs.lW (Nat.le_refl _) (fun _ _ _=>rfl) fun op av=>(afK op av).1) hr
  (fun op av x hx=>nt (fun x=>E.At x→x.kind= .atomic) op av x hx) (fun op av=>(afK op av).2) (fun e=>by rw[←e4];exact e) (fun _ _ _ _ _ _ op av x hx=>nt (fun x=>¬ko E.Hb x.loc) op av x hx) (by omega)
  (fun cl' hw _ _=>hs.fW hi rfl e3.1 e3.2.1 e3.2.2.1 e3.2.2.2 cl' hw) hs.mu (G0 hs.mi e1 hi) (fun h=>⟨.inl h,bx⟩) ?_ ((oN e2 hi).append_left _) (.inr ⟨by have:=pR hi r' m;rw[e1] at this;omega,rfl,zp⟩)
 exact hs.gu.step hi e7 e6 (fun e=>by rw[←e4];exact e) (fun h=> .inl (by rw[e5];exact h)) (fun _ _ h=>h) rfl fun op av x hx=>nt (fun x=>¬ko E.Hb x.loc∧∀b,blk x.loc=some b→L b≠none→(K (i+1)).knows b) op av x hx
theorem bB.leave(hb:jM E L K gs w t D)(hs:s9 E L0 L K gs w t D pend cl o m l)(hp:E.LJ (l++fq D) os)(hm:gs[0]?=some main) (hd:Deaf t 0=d0) (cJ:mL E Fin main d0 cl) {q d:Nat} {cur:Bool}
 (hi:D[i]?=some (.leave q d cur)) (hg:gs[i+1]?=some g) (QP:g.status= .running):jV E Fin L0 K D pend cl o m os main d0 gs w sl t (i+1):=by
 obtain⟨bk,aN,bF⟩:=hb.ok i _ hi
 obtain rfl:bk=g:=by rw[hg] at aN;exact(Option.some.inj aN).symm
 obtain⟨hK,hq,jN,hc,hk⟩:=bF
 cases q with
 |zero=>have:=hq.1;rw[QP] at this;cases this
 |succ q=>
  rcases hq with ⟨h1,_⟩| ⟨_,g',es,zp,bE,Hj⟩
  ·rw[QP] at h1;cases h1
  have hu:=C3 (i:=i+1) (fn:=bk.frame.fn) (pos:=bk.frame.place) zp
  have hrb:∀p,ConcN.RelBy (stA E.Wg) t (i+1) p→ConcN.RelBy (stA E.Wg) (t++MemOp.ofEvents (i+1) bk.frame.fn bk.frame.place es) (i+1) p:=fun p hp=>
   ConcN.RelBy.appOwn hp _ _ _ fun j e he=> .inl (GW (zp e (Array.mem_of_getElem? he)))
  refine bB.still hb hs hp hm hd cJ (r':= .leave q (deafBehind d es) cur) hi hg (bE w) (fun op av=>⟨hu op av,fun a=>GX zp a op av⟩) Hj.status ⟨hK,Hj,?_,fun e=>let ⟨r,hr⟩:=hc e;⟨r,hrb r hr⟩,fun e=>(hk e).quiet hu⟩ rfl rfl ⟨rfl,rfl,rfl,rfl⟩ rfl rfl rfl rfl (pn (Nat.lt_succ_self q))
  rw[Deaf_own,jN]
theorem vU(i:Nat)(fn:FuncId)(pos:String):MemOp.ofEvents i fn pos #[]= #[]:=rfl
theorem bB.ar8(hb:jM E L K gs w t D)(hs:s9 E L0 L K gs w t D pend cl o m l)(hp:E.LJ (l++fq D) os)(hm:gs[0]?=some main) (hd:Deaf t 0=d0) (cJ:mL E Fin main d0 cl) {x:aJ} {it:ι} {ls:List ι}
 (hi:D[i]?=some (.lk x (n+1) it ls)) (hg:gs[i+1]?=some g):jV E Fin L0 K D pend cl o m os main d0 gs w sl t (i+1):=by
 obtain⟨bk,aN,bF⟩:=hb.ok i _ hi
 obtain rfl:bk=g:=by rw[hg] at aN;exact(Option.some.inj aN).symm
 obtain⟨h1,h2,h3,c,cs,h4,h5| ⟨e,_⟩⟩:=bF
 ·obtain⟨_,g',bE,mf⟩:=h5
  refine bB.still hb hs hp hm hd cJ (r':= .lk x n it ls) hi hg (bE w ⟨_,_,hs.mu⟩) (by rw[vU];simp) (.inl (de.pu.running mf)) ?_ rfl rfl ⟨rfl,rfl,rfl,rfl⟩ rfl rfl rfl rfl (pn (Nat.lt_succ_self n))
  rw[vU,Array.append_empty];exact⟨h1,h2,h3,c,cs,h4,.inl mf⟩
 cases e
theorem bB.aqL(hb:jM E L K gs w t D)(hs:s9 E L0 L K gs w t D pend cl o m l)(hp:E.LJ (l++fq D) os)(hm:gs[0]?=some main) (hd:Deaf t 0=d0) (cJ:mL E Fin main d0 cl) {x:aJ} {ls:List ι}
 (hi:D[i]?=some (.ul x (n+1) ls)) (hg:gs[i+1]?=some g):jV E Fin L0 K D pend cl o m os main d0 gs w sl t (i+1):=by
 obtain⟨bk,aN,bF⟩:=hb.ok i _ hi
 obtain rfl:bk=g:=by rw[hg] at aN;exact(Option.some.inj aN).symm
 obtain⟨h1,h2,h3,c,cs,⟨_,g',bE,mf⟩,h5⟩:=bF
 refine bB.still hb hs hp hm hd cJ (r':= .ul x n ls) hi hg (bE w ⟨_,_,hs.mu⟩) (by rw[vU];simp) (.inl (de.pu.running mf)) ?_ rfl rfl ⟨rfl,rfl,rfl,rfl⟩ rfl (by cases x<;>rfl) rfl rfl (pn (Nat.lt_succ_self n))
 rw[vU,Array.append_empty];exact⟨h1,h2,h3,c,cs,mf,h5⟩
theorem bB.Td(hb:jM E L K gs w t D)(hs:s9 E L0 L K gs w t D pend cl o m l)(hp:E.LJ (l++fq D) os)(hm:gs[0]?=some main) (hd:Deaf t 0=d0) (cJ:mL E Fin main d0 cl) {k:WK} 
 (hi:D[i]?=some (.st k (n+1))) (hg:gs[i+1]?=some g):jV E Fin L0 K D pend cl o m os main d0 gs w sl t (i+1):=by
 obtain⟨bk,aN,bF⟩:=hb.ok i _ hi
 obtain rfl:bk=g:=by rw[hg] at aN;exact(Option.some.inj aN).symm
 obtain⟨hK,jN,⟨bE,g',hgo,mf⟩,KL⟩:=bF
 obtain⟨st,sm,ha,_⟩:=hs.cells
 refine bB.still hb hs hp hm hd cJ (r':= .st k n) hi hg (hgo w ⟨st,sm,ha⟩) (by rw[vU];simp) (.inl (Pure.running (WK.running k) mf)) ?_ rfl rfl (by cases k<;>exact⟨rfl,rfl,rfl,rfl⟩) rfl rfl rfl rfl (pn (Nat.lt_succ_self n))
 rw[vU,Array.append_empty];exact⟨hK,jN,mf,KL⟩
end
theorem oV.ops{B:Nat}{es:Array Event}(h:∀e∈es,oV B e)(i:Nat)(fn:FuncId)(pos:String):∀op∈MemOp.ofEvents i fn pos es,
 op.g=i∧(∀a,op.act≠ .mark (.release a))∧∀x,op.act.touch?=some x→blk x.loc=some B∧x.kind= .atomic:=by
 intro op av
 rw[ofEvents_eq] at av
 obtain⟨e,he,rfl⟩:=Array.mem_map.1 av
 rcases h e he with rfl|rfl|rfl|rfl| ⟨a,wr,rfl,ha⟩
 ·exact⟨rfl,fun a=>by simp[said,Go.ConcR.mk,MemAct.ofEvent],fun x hx=>by cases hx⟩
 ·exact⟨rfl,fun a=>by simp[said,Go.ConcR.mk,MemAct.ofEvent],fun x hx=>by cases hx⟩
 ·exact⟨rfl,fun a=>by simp[said,Go.ConcR.mk,MemAct.ofEvent],fun x hx=>by cases hx⟩
 ·exact⟨rfl,fun a=>by simp[said,Go.ConcR.mk,MemAct.ofEvent],fun x hx=>by cases hx⟩
 refine⟨rfl,fun a=>by cases wr<;>simp[MemAct.ofEvent],fun x hx=>?_⟩
 cases wr<;>(simp only[MemAct.ofEvent,MemAct.touch?,Option.some.injEq] at hx;subst hx;exact⟨by simp[blk,ha],rfl⟩)
theorem Md.d1g{a c:Nat}{o:Option CK}(h:Md mx n a b c o st sm)(hn:1≤n):
 ∃v wt:Nat,v+1=n∧wt≤1∧st=((v+1:Nat):Int)*KK+(wt:Int)∧sm=0∧a=0∧b=0∧c=0∧
  ((v=0∧wt=1)→Md mx v 1 0 0 o ((v:Int)*KK+(wt:Int)) 0)∧(¬(v=0∧wt=1)→Md mx v 0 0 0 o ((v:Int)*KK+(wt:Int)) 0):=by
 by_cases ho:o=none
 ·cases h with
  |start=>exact⟨n-1,0,by omega,by omega,by rw[show n-1+1=n by omega];simp,rfl,rfl,rfl,rfl,fun h=>by omega,fun _=>by simpa using .start⟩
  |_=>cases ho
 exact h.d1 hn ho
section
variable {ι:Type} {E:de ι} {Fin:Goroutine→Prop}
variable {L0 L L':Nat→Option Obj} {K:Nat→St} {gs:Array Goroutine} {w w':World} {t u:Trace} {D:List (ai ι)} {pend d0:Nat} {cl:rQ} {o:Wd} {m:Nat} {l os:List ι} {main:Goroutine} {sl:Option (Nat×Nat)}
 {i:Nat} {r r':ai ι} {g g':Goroutine} {s':St} {es:Array Event}
theorem s9.pU(h:s9 E L0 L K gs w t D pend cl o m l)(hf:Fit L K w t)(hj:j=0∨∃k r,j=k+1∧D[k]?=some r∧r.left=false) {B:Nat} (hB:B=E.Wg∨B=E.Mu) (nP:w'.heap.size=w.heap.size) (SH:∀b,b≠B→w'.heap[b]?=w.heap[b]?)
 (jb:∀e∈es,oV B e) (fn:FuncId) (pos:String):Fit L K w' (t++MemOp.ofEvents j fn pos es):=by
 have ho:=oV.ops jb j fn pos
 obtain⟨st,sm,ha,_⟩:=h.cells
 have hBk:(∀j,¬(K j).knows B)∧L B=none∧B <w.heap.size:=by
  rcases hB with rfl|rfl
  ·exact⟨h.kW,h.lW,lt_size ha⟩
  exact⟨h.kM,h.lM,lt_size h.mu⟩
 refine hf.beside B j hBk.1 hBk.2.1 hBk.2.2 (Nat.le_of_eq nP.symm) (fun b hb _=>SH b hb) (fun op av=>(ho op av).1) fun op av x hx=>?_
 obtain⟨h1,h2⟩:=(ho op av).2.2 x hx
 refine⟨h1,fun sd p a qp hc=>h.plain j hj p a qp (by rw[de.At,hc.1,h1];rcases hB with rfl|rfl<;>simp) ?_⟩
 rcases hc.2.2.2 with h3|h3|h3
 ·exact h3
 ·rw[h2] at h3;cases h3
 rw[h2] at h3;cases h3.2.2
theorem bB.sync(hb:jM E L K gs w t D)(hs:s9 E L0 L K gs w t D pend cl o m l)(hp:E.LJ (l++fq D) os)(hm:gs[0]?=some main) (hd:Deaf t 0=d0) (cJ:mL E Fin main d0 cl)
 (hi:D[i]?=some r) (hg:gs[i+1]?=some g) (hgo:stepG E.P false g w= .go g' w' es) {B:Nat} (hB:B=E.Wg∨B=E.Mu) (nP:w'.heap.size=w.heap.size) (SH:∀b,b≠B→w'.heap[b]?=w.heap[b]?) (afR:iC w w') (jb:∀e∈es,oV B e)
 (hr:fI E (t++MemOp.ofEvents (i+1) g.frame.fn g.frame.place es) (i+1) (K (i+1)) g' r')
 (e4:r.left=false) (e5:r.tok=true→r'.tok=true∨∀p,Knows t (i+1) p→LQ (stA E.Mu) (t++MemOp.ofEvents (i+1) g.frame.fn g.frame.place es) p) (e6:r'.ep=false) (e7:r.ep=false)
 (qn:r'.cnt≤r.cnt)
 (fB:∀cl':rQ,EX cl cl'→(cl=none↔cl'=none)→(mayWake E.P g=true→(g'.status= .running∨g'.status= .finished)→cl'.map (·.1)≠some .blk)→
  ∃st sm,WgAt E.ty E.Wg w' st sm∧Md E.max (cG ai.cnt (D.set i r')+pend) (cG ai.c4 (D.set i r')) (cG ai.c3 (D.set i r')) (cG ai.c2 (D.set i r')) (cl'.map (·.1)) st sm)
 {o':Wd} (zp:MuAt E.tm E.Mu w' o'.enc (m':Nat)) (OI:l9 ((D.set i r').map ai.lT) o' m')
 (Nt:m'=1→(m=1∨mayWake E.P g=true)∧(g'.status= .running∨g'.status= .finished)) (QU:r'.tT=r.tT)
 (KP:xL (D.set i r') m' <xL D m∨(xL (D.set i r') m'≤xL D m∧o'=o∧n8 o r' r)):
 jV E Fin L0 K D pend cl o m os main d0 gs w sl t (i+1):=by
 have ho:=oV.ops jb (i+1) g.frame.fn g.frame.place
 have hHB:E.Hb≠B:=by rcases hB with rfl|rfl;exact hs.ne.2.1;exact hs.ne.2.2
 have hLB:L B=none:=by rcases hB with rfl|rfl;exact hs.lW;exact hs.lM
 have nh:∀op∈MemOp.ofEvents (i+1) g.frame.fn g.frame.place es,∀x,op.act.touch?=some x→¬ko E.Hb x.loc:=fun op av x hx ⟨a,ea,e1,_⟩=>by
  have:=((ho op av).2.2 x hx).1
  rw[ea] at this;simp only[blk,Option.some.injEq] at this;exact hHB (by omega)
 refine bB.go hb hs hp hm hd cJ (L':=L) (r':=r') (s':=K (i+1)) (l':=l) (o':=o') (m':=m') hi hg hgo rfl afR (hs.kW _) (hs.kM _) (hs.nH _) (fun x hx=> .inl (hs.yD hi e7 x hx)) (by rw[nP];exact hs.bO) hs.lW hs.lM hs.lH
  (by rw[fQ];exact hs.pU hb.fit (.inr ⟨i,r,rfl,hi,e4⟩) hB nP SH jb _ _) hr (fun op av x hx _=>((ho op av).2.2 x hx).2) (fun op av=>(ho op av).2.1) (fun _=>e4) (fun _ _ _ _ _ _=>nh) qn fB zp OI Nt ?_ ((oN QU hi).append_left _) KP
 exact hs.gu.step hi e7 e6 (fun _=>e4) e5 (fun _ _ h=>h) (SH _ hHB) fun op av x hx=>⟨nh op av x hx,fun b ju hl=>by
  have:=((ho op av).2.2 x hx).1
  rw[ju] at this;cases this;exact absurd hLB hl⟩
theorem bB.mS(hb:jM E L K gs w t D)(hs:s9 E L0 L K gs w t D pend cl o m l)(hp:E.LJ (l++fq D) os)(hm:gs[0]?=some main) (hd:Deaf t 0=d0) (cJ:mL E Fin main d0 cl) {k:WK}
 (hi:D[i]?=some (.st k 0)) (hg:gs[i+1]?=some g) (hgo:stepG E.P false g w= .go g' w' es) (hw:bQ E.jK w w') (jb:∀e∈es,oV E.Wg e) (bx:g'.status= .running∨g'.status= .finished)
 (hr:fI E (t++MemOp.ofEvents (i+1) g.frame.fn g.frame.place es) (i+1) (K (i+1)) g' r') (e1:r'.lT= .out 0) (e2:r'.tT=[]) (e3:r'.ep=false) (qn:r'.cnt≤(ai.st (ι:=ι) k 0).cnt) (bO:n8 o r' (.st k 0))
 (fB:∀cl':rQ,EX cl cl'→(cl=none↔cl'=none)→(mayWake E.P g=true→(g'.status= .running∨g'.status= .finished)→cl'.map (·.1)≠some .blk)→
  ∃st sm,WgAt E.ty E.Wg w' st sm∧Md E.max (cG ai.cnt (D.set i r')+pend) (cG ai.c4 (D.set i r')) (cG ai.c3 (D.set i r')) (cG ai.c2 (D.set i r')) (cl'.map (·.1)) st sm):
 jV E Fin L0 K D pend cl o m os main d0 gs w sl t (i+1):=
 bB.sync hb hs hp hm hd cJ (o':=o) (m':=m) hi hg hgo (.inl rfl) hw.size hw.block ⟨by rw[hw.same.1];exact OsLater.refl _,hw.same.2⟩ jb hr rfl (fun e=>by cases e) e3 rfl qn fB (by unfold MuAt;rw[hw.block _ (show E.Mu≠E.jK.Wg from Ne.symm hs.ne.1)];exact hs.mu) (G0 (r:= .st k 0) hs.mi e1 hi) (fun h=>⟨.inl h,bx⟩) e2
  (.inr ⟨by have:=pR hi r' m;rw[e1] at this;have e:(ai.st (ι:=ι) k 0).lT= .out 0:=rfl;rw[e] at this;omega,rfl,bO⟩)
theorem mI(B k:Nat)(b:Bool):oV B ⟨.cell ⟨B,k,none⟩,b,true⟩:= .inr (.inr (.inr (.inr ⟨_,_,rfl,rfl⟩)))
section
variable (hb:jM E L K gs w t D) (hs:s9 E L0 L K gs w t D pend cl o m l) (hp:E.LJ (l++fq D) os) (hm:gs[0]?=some main) (hd:Deaf t 0=d0) (cJ:mL E Fin main d0 cl)
include hb hs hp hm hd cJ
theorem bB.r0(hi:D[i]?=some (.st .r0 0)) (hg:gs[i+1]?=some g):jV E Fin L0 K D pend cl o m os main d0 gs w sl t (i+1):=by
 obtain⟨bk,aN,bF⟩:=hb.ok i _ hi
 obtain rfl:bk=g:=by rw[hg] at aN;exact(Option.some.inj aN).symm
 obtain⟨hK,jN,⟨bE,g',hgo,n,mf⟩,_⟩:=bF
 obtain⟨st,sm,ha,fE⟩:=hs.cells
 refine bB.mS hb hs hp hm hd cJ (r':= .st .k1 n) hi hg (hgo w) (bQ.refl w) (by intro e he;simp at he;subst he;exact .inr (.inr (.inl rfl))) (.inl (Pure.running (WK.running .k1) mf)) ?_ rfl rfl rfl (Nat.le_refl _) (bZ (by simp[ai.mu,WK.fO])) fun cl' tI _ _=>⟨st,sm,ha,BO hi rfl rfl rfl rfl (fE.Ey tI)⟩
 refine⟨hK,?_,mf,fun _=>⟨_,ConcN.RelBy.new jN _ _⟩⟩
 rw[Deaf_own,jN];rfl
theorem bB.k1(hi:D[i]?=some (.st .k1 0)) (hg:gs[i+1]?=some g):jV E Fin L0 K D pend cl o m os main d0 gs w sl t (i+1):=by
 obtain⟨bk,aN,bF⟩:=hb.ok i _ hi
 obtain rfl:bk=g:=by rw[hg] at aN;exact(Option.some.inj aN).symm
 obtain⟨hK,jN,⟨bE,g',hgo,n,mf⟩,Cg⟩:=bF
 obtain⟨p,fp⟩:=Cg rfl
 obtain⟨st,sm,ha,fE⟩:=hs.cells
 refine bB.mS hb hs hp hm hd cJ (r':= .st .d1 n) hi hg (hgo w) (bQ.refl w) (by intro e he;simp at he;subst he;exact .inl rfl) (.inl (Pure.running (WK.running .d1) mf)) ?_ rfl rfl rfl (Nat.le_refl _) (bZ (by simp[ai.mu,WK.fO])) fun cl' tI _ _=>⟨st,sm,ha,BO hi rfl rfl rfl rfl (fE.Ey tI)⟩
 refine⟨hK,?_,mf,fun _=>⟨p,ConcN.RelBy.appOwn fp _ _ _ fun j e he=> .inl ?_⟩⟩
 ·rw[Deaf_own,jN];rfl
 have:=Array.mem_of_getElem? he;simp at this;subst this;rfl
theorem bB.d1(hi:D[i]?=some (.st .d1 0)) (hg:gs[i+1]?=some g):jV E Fin L0 K D pend cl o m os main d0 gs w sl t (i+1):=by
 obtain⟨bk,aN,bF⟩:=hb.ok i _ hi
 obtain rfl:bk=g:=by rw[hg] at aN;exact(Option.some.inj aN).symm
 obtain⟨hK,jN,afk,Cg⟩:=bF
 obtain⟨p,fp⟩:=Cg rfl
 obtain⟨st,sm,ha,fE⟩:=hs.cells
 have hn:1≤cG ai.cnt D+pend:=Nat.le_trans (sx ai.cnt hi) (Nat.le_add_right _ _)
 obtain⟨v,wt,hv,hwt,rfl,rfl,ea,eb,ec,_,_⟩:=fE.d1g hn
 have qm:=hs.mX
 obtain⟨bE,fP⟩:=afk
 obtain⟨g',hgo,Ht,Q6⟩:=fP v wt hwt (show v <E.max by omega)
 have QT:ConcN.RelBy (stA E.Wg) (t++MemOp.ofEvents (i+1) bk.frame.fn bk.frame.place #[rd (stA E.Wg),wr (stA E.Wg)]) (i+1) p:=by
  refine ConcN.RelBy.appOwn fp _ _ _ fun j e he=> .inr ?_
  have yE:Deaf t (i+1)=1:=jN
  match j,he with
  |0,he=>simp at he;subst he;exact⟨⟨_,_,rfl⟩,by simp[deafBehind,yE]⟩
  |1,he=>simp at he;subst he;exact⟨⟨_,_,rfl⟩,by simp[deafBehind,yE,rd]⟩
  |j+2,he=>simp at he
 have Jx:Deaf (t++MemOp.ofEvents (i+1) bk.frame.fn bk.frame.place #[rd (stA E.Wg),wr (stA E.Wg)]) (i+1)=1:=by rw[Deaf_own,jN];rfl
 have jb:∀e∈ #[rd (stA E.Wg),wr (stA E.Wg)],oV E.Wg e:=by intro e he;simp at he;rcases he with rfl|rfl<;>exact mI _ 0 _
 by_cases hbx:v=0∧wt=1
 ·obtain⟨n,mf⟩:=Ht hbx
  refine bB.mS hb hs hp hm hd cJ (r':= .st .d2 n) hi hg (hgo w ha) (bQ.set w 0 _) jb (.inl (Pure.running (WK.running .d2) mf)) ⟨hK,Jx,mf,fun _=>⟨p,QT⟩⟩ rfl rfl rfl (Nat.zero_le _) (bZ (by simp[ai.mu,WK.fO])) fun cl' tI _ _=>?_
  obtain⟨v',wt',hv',as6,est,_,_,_,_,h1,_⟩:=(fE.Ey tI).d1g hn
  have:v'=v:=by omega
  subst this
  have:wt'=wt:=by omega
  subst this
  exact⟨_,_,Go.ConcR.WgAt.setSt ha _,BO hi (by simp[ai.cnt];omega) (by simp[ai.c4];omega) (by simp[ai.c3];omega) (by simp[ai.c2];omega) (h1 hbx)⟩
 obtain⟨q,hq⟩:=Q6 hbx
 refine bB.mS hb hs hp hm hd cJ (r':= .leave q 1 true) hi hg (hgo w ha) (bQ.set w 0 _) jb hq.status ⟨hK,hq,Jx,fun _=>⟨p,QT⟩,fun e=>(by cases e)⟩ rfl rfl rfl (Nat.zero_le _) (bZ (by simp[ai.mu,WK.fO])) fun cl' tI _ _=>?_
 obtain⟨v',wt',hv',as6,est,_,_,_,_,_,h1⟩:=(fE.Ey tI).d1g hn
 have:v'=v:=by omega
 subst this
 have:wt'=wt:=by omega
 subst this
 exact⟨_,_,Go.ConcR.WgAt.setSt ha _,BO hi (by simp[ai.cnt];omega) (by simp[ai.c4];omega) (by simp[ai.c3];omega) (by simp[ai.c2];omega) (h1 hbx)⟩
theorem bB.d2(hi:D[i]?=some (.st .d2 0)) (hg:gs[i+1]?=some g):jV E Fin L0 K D pend cl o m os main d0 gs w sl t (i+1):=by
 obtain⟨bk,aN,bF⟩:=hb.ok i _ hi
 obtain rfl:bk=g:=by rw[hg] at aN;exact(Option.some.inj aN).symm
 obtain⟨hK,jN,⟨bE,g',hgo,n,mf⟩,Cg⟩:=bF
 obtain⟨p,fp⟩:=Cg rfl
 obtain⟨st,sm,ha,fE⟩:=hs.cells
 have hn:1≤cG ai.c4 D:=sx ai.c4 hi
 obtain⟨rfl,rfl,e1,e4,e3,e2,_⟩:=fE.d2 hn
 refine bB.mS hb hs hp hm hd cJ (r':= .st .d3 n) hi hg (hgo w ha) (bQ.refl w) (by intro e he;simp at he;subst he;exact mI _ 0 _) (.inl (Pure.running (WK.running .d3) mf)) ?_ rfl rfl rfl (Nat.le_refl _) (bZ (by simp[ai.mu,WK.fO])) fun cl' tI _ _=>?_
 ·refine⟨hK,?_,mf,fun _=>⟨p,ConcN.RelBy.appOwn fp _ _ _ fun j e he=> .inr ?_⟩⟩
  ·rw[Deaf_own,jN];rfl
  have yE:Deaf t (i+1)=1:=jN
  match j,he with
  |0,he=>simp at he;subst he;exact⟨⟨_,_,rfl⟩,by simp[deafBehind,yE]⟩
  |j+1,he=>simp at he
 exact⟨_,_,ha,BO hi (by simp[ai.cnt];omega) (by simp[ai.c4];omega) (by simp[ai.c3];omega) (by simp[ai.c2];omega) ((fE.Ey tI).d2 hn).2.2.2.2.2.2⟩
theorem bB.d3(hi:D[i]?=some (.st .d3 0)) (hg:gs[i+1]?=some g):jV E Fin L0 K D pend cl o m os main d0 gs w sl t (i+1):=by
 obtain⟨bk,aN,bF⟩:=hb.ok i _ hi
 obtain rfl:bk=g:=by rw[hg] at aN;exact(Option.some.inj aN).symm
 obtain⟨hK,jN,⟨bE,g',hgo,n,mf⟩,Cg⟩:=bF
 obtain⟨p,fp⟩:=Cg rfl
 obtain⟨st,sm,ha,fE⟩:=hs.cells
 have hn:1≤cG ai.c3 D:=sx ai.c3 hi
 obtain⟨rfl,rfl,e1,e4,e3,e2,_⟩:=fE.d3 hn
 refine bB.mS hb hs hp hm hd cJ (r':= .st .d4 n) hi hg (hgo w ha) (bQ.set w 0 _) (by intro e he;simp at he;subst he;exact mI _ 0 _) (.inl (Pure.running (WK.running .d4) mf)) ?_ rfl rfl rfl (Nat.le_refl _) (bZ (by simp[ai.mu,WK.fO])) fun cl' tI _ _=>?_
 ·refine⟨hK,?_,mf,fun _=>⟨p,ConcN.RelBy.appOwn fp _ _ _ fun j e he=> .inr ?_⟩⟩
  ·rw[Deaf_own,jN];rfl
  have yE:Deaf t (i+1)=1:=jN
  match j,he with
  |0,he=>simp at he;subst he;exact⟨⟨_,_,rfl⟩,by simp[deafBehind,yE]⟩
  |j+1,he=>simp at he
 exact⟨_,_,Go.ConcR.WgAt.setSt ha _,BO hi (by simp[ai.cnt];omega) (by simp[ai.c4];omega) (by simp[ai.c3];omega) (by simp[ai.c2];omega) ((fE.Ey tI).d3 hn).2.2.2.2.2.2⟩
theorem bB.d4(hi:D[i]?=some (.st .d4 0)) (hg:gs[i+1]?=some g):jV E Fin L0 K D pend cl o m os main d0 gs w sl t (i+1):=by
 obtain⟨bk,aN,bF⟩:=hb.ok i _ hi
 obtain rfl:bk=g:=by rw[hg] at aN;exact(Option.some.inj aN).symm
 obtain⟨hK,jN,⟨bE,hmw,g',hgo,q,hq⟩,Cg⟩:=bF
 obtain⟨p,fp⟩:=Cg rfl
 obtain⟨st,sm,ha,fE⟩:=hs.cells
 have hn:1≤cG ai.c2 D:=sx ai.c2 hi
 obtain⟨rfl,rfl,e1,e4,e3,e2,_⟩:=fE.d4 hn
 have yE:Deaf t (i+1)=1:=jN
 refine bB.mS hb hs hp hm hd cJ (r':= .leave q 1 true) hi hg (hgo w ha) (bQ.set w 1 _) (by
  intro e he;simp[semEvents] at he
  rcases he with rfl|rfl|rfl|rfl
  ·exact .inl rfl
  ·exact mI _ 1 _
  ·exact mI _ 1 _
  exact .inr (.inl rfl)) hq.status ?_ rfl rfl rfl (Nat.le_refl _) (bZ (by simp[ai.mu,WK.fO])) fun cl' tI _ U2=>?_
 ·refine⟨hK,hq,?_,fun _=>⟨p,ConcN.RelBy.appOwn fp _ _ _ fun j e he=>?_⟩,fun e=>(by cases e)⟩
  ·rw[Deaf_own,jN];rfl
  match j,he with
  |0,he=>simp[semEvents] at he;subst he;exact .inl rfl
  |1,he=>simp[semEvents] at he;subst he;exact .inr ⟨⟨_,_,rfl⟩,by simp[deafBehind,yE,semEvents]⟩
  |2,he=>simp[semEvents] at he;subst he;exact .inr ⟨⟨_,_,rfl⟩,by simp[deafBehind,yE,semEvents]⟩
  |3,he=>simp[semEvents] at he;subst he;exact .inl rfl
  |j+4,he=>simp[semEvents] at he
 exact⟨_,_,Go.ConcR.WgAt.setSm ha _,BO hi (by simp[ai.cnt];omega) (by simp[ai.c4];omega) (by simp[ai.c3];omega) (by simp[ai.c2];omega) (((fE.Ey tI).d4 hn).2.2.2.2.2.2 (U2 hmw hq.status))⟩
end
end
section
variable {T:List aJ} {o o':Wd} {m m' i:Nat} {x x':aJ}
theorem Nx.isL(h:Nx x o m x' o' m')(hx:x.isL=true)(hm:x.mid=true):x'.isL=true∧x'.k=x.k:=by
 cases h<;>(try (cases hx;done))<;>(try (cases hm;done))<;>(try exact⟨rfl,rfl⟩)<;>((try unfold AI)<;>repeat' split)<;>exact⟨rfl,rfl⟩
theorem Nx.isU(h:Nx x o m x' o' m')(hx:x.isU=true)(hm:x.mid=true):x'.isU=true∧x'.k=x.k:=by
 cases h<;>(try (cases hx;done))<;>(try (cases hm;done))<;>(try exact⟨rfl,rfl⟩)<;>((try unfold YG)<;>repeat' split)<;>exact⟨rfl,rfl⟩
theorem Nx.up(h:Nx x o m x' o' m'):m'≤m∨∃k,x= .us k:=by
 cases h<;>first|exact .inl (Nat.le_refl _)|exact .inl (Nat.le_succ _)|exact .inr ⟨_,rfl⟩
theorem l9.aRx(h:l9 T o m)(hi:T[i]?=some x):kQ x o:=by
 have hm:=List.mem_of_getElem? hi
 cases x with
 |r1 k aw sv it ws=>exact h.aw hi fun e=>by simp[aJ.B,e]
 |r3 k aw sv it ws=>exact h.aw hi fun e=>by simp[aJ.B,e]
 |r2 k sv=>
  have hG:=jk aJ.G hm
  simp only[aJ.G] at hG
  obtain⟨L,W,S,c⟩:=o
  refine⟨fun hS=>?_,fun hS=>?_⟩
  ·obtain⟨h1,h2,h3,h4⟩:=h.star hS
   simp only at*
   subst hS h1
   cases L<;>simp at h3 ⊢ <;>omega
  obtain⟨h1,h2,h3⟩:=h.norm hS
  simp only at*
  cases W<;>simp at h1 ⊢;omega
 |a1 k ex=>
  have hA:=jk aJ.A hm
  simp only[aJ.A] at hA
  obtain⟨L,W,S,c⟩:=o
  cases hS:S with
  |false=>subst hS;obtain⟨h1,h2,h3⟩:=h.norm rfl;omega
  |true=>
   subst hS
   obtain⟨h1,h2,h3,h4⟩:=h.star rfl
   simp only at*
   subst h1
   refine⟨rfl,?_,rfl,by show 1≤c;omega⟩
   cases L<;>simp at h3 ⊢;omega
 |u0 k=>
  have hH:=jk aJ.H hm
  simp only[aJ.H] at hH
  have:=h.held
  show o.L=true
  cases hL:o.L with
  |true=>rfl
  |false=>rw[hL] at this;simp at this;omega
 |_=>trivial
theorem l9.cle(h:l9 T o m):o.c≤fA aJ.Q T+fA aJ.G T+fA aJ.A T:=by
 cases hS:o.S
 ·obtain⟨_,b,_⟩:=h.norm hS;omega
 obtain⟨_,_,_,d⟩:=h.star hS;omega
end
section
variable {ι:Type} {E:de ι} {Fin:Goroutine→Prop}
variable {L0 L L':Nat→Option Obj} {K:Nat→St} {gs:Array Goroutine} {w w':World} {t u:Trace} {D:List (ai ι)} {pend d0:Nat} {cl:rQ} {o:Wd} {m:Nat} {l os:List ι} {main:Goroutine} {sl:Option (Nat×Nat)}
 {i:Nat} {r r':ai ι} {g g':Goroutine} {s':St} {es:Array Event}
theorem Wl:∀(D:List (ai ι)),fA aJ.Q (D.map ai.lT)+fA aJ.G (D.map ai.lT)+fA aJ.A (D.map ai.lT)≤cG ai.cnt D+fA (fun r=>r.lT.Q+r.lT.G+r.lT.A-r.cnt) D
 | []=>by simp[fA]
 |r::D=>by
  have:=Wl D
  simp only[fA,cG,List.map_cons,List.sum_cons] at*
  omega
theorem s9.few(hb:jM E L K gs w t D)(hs:s9 E L0 L K gs w t D pend cl o m l):o.c≤E.max∧m≤1:=by
 refine⟨?_,hs.mi.few.2⟩
 have h1:=hs.mi.cle
 have h2:=Wl D
 have h3:fA (fun r:ai ι=>r.lT.Q+r.lT.G+r.lT.A-r.cnt) D=0:=qO _ fun r hr=>by
  obtain⟨k,hk⟩:=List.getElem?_of_mem hr
  obtain⟨y,hy,bF⟩:=hb.ok k r hk
  cases r with
  |lk x n it ls=>cases x<;>rfl
  |ul x n ls=>cases x<;>rfl
  |st k n=>cases k<;>rfl
  |_=>rfl
 have:=hs.mX
 omega
theorem s9.alone(hs:s9 E L0 L K gs w t D pend cl o m l)(hi:D[i]?=some r) (hH:r.lT.H=1) {y:ai ι} (hj:D[j]?=some y) (hy:y.lT.H=1):j=i:=
 hs.mi.one (by rw[List.getElem?_map,hj];rfl) (by rw[List.getElem?_map,hi];rfl) hy hH
theorem s9.Qt(hi:D[i]?=some r):(D.map ai.lT)[i]?=some r.lT:=by rw[List.getElem?_map,hi];rfl
theorem Ei{P:Program}{main:Bool}(h:dg P main Stop g1 s):∀ {n:Nat} {g:Goroutine},Pure P main (fun _=>True) (· =g1) n g→(g1.status= .running)→dg P main Stop g s
 |0,g,hp,_=>by have:g=g1:=hp;subst this;exact h
 |n+1,g,⟨h1,g',h2,h3⟩,hs=>(cN P main Stop).go h1 (Pure.running (fun _ e=>by rw[e];exact hs) h3) (fun w=>h2 w trivial) (Ei h h3 hs)
section
variable (hb:jM E L K gs w t D) (hs:s9 E L0 L K gs w t D pend cl o m l) (hp:E.LJ (l++fq D) os) (hm:gs[0]?=some main) (hd:Deaf t 0=d0) (cJ:mL E Fin main d0 cl)
include hb hs hp hm hd cJ
theorem bB.mid{x:aJ}(hi:D[i]?=some r) (hx:r.lT=x) (hg:gs[i+1]?=some g) (cb:E.M.At E.Mu x cs g) (y4:x.mid=true) (hS:x.zm=true→m=1) (jN:Deaf t (i+1)=x.deaf)
 (cF:r.left=false∧r.ep=false∧r.cnt=1∧r.c4=0∧r.c3=0∧r.c2=0) (htk:r.tok=true→(∃k,x= .ui k)∨∃k,x= .ur k) (zp:r.mu o=(2*x.fO o+7,.leaf,0))
 (hr:∀g' x' o' m' n es,Nx x o m x' o' m'→E.pu (E.M.At E.Mu x' cs) n g'→Deaf (t++MemOp.ofEvents (i+1) g.frame.fn g.frame.place es) (i+1)=x'.deaf→
  ∃r',fI E (t++MemOp.ofEvents (i+1) g.frame.fn g.frame.place es) (i+1) (K (i+1)) g' r'∧r'.lT=x'∧r'.tT=r.tT∧r'.ep=false∧r'.cnt=1∧r'.c4=0∧r'.c3=0∧r'.c2=0∧r'.mu o=(2*x'.fO o+7,.leaf,n)∧((∃k,x= .ui k)→r'.tok=true)):
 jV E Fin L0 K D pend cl o m os main d0 gs w sl t (i+1):=by
 obtain⟨hc,mh⟩:=hs.few hb
 have afR:(D.map ai.lT)[i]?=some x:=by rw[s9.Qt hi,hx]
 have bF:=hs.mi.ok x (List.mem_of_getElem? afR)
 obtain⟨g',w',es,x',o',m',Di,hgo,QO,jb,hde,hur,hus,n,SK⟩:=E.M.step cb hs.mu hc mh bF (hs.mi.aRx afR) y4 hS
 have Jx:Deaf (t++MemOp.ofEvents (i+1) g.frame.fn g.frame.place es) (i+1)=x'.deaf:=by rw[Deaf_own,jN];exact hde
 obtain⟨r',aNH,f1,f2,f3,f4,f5,f6,f7,f8,f9⟩:=hr g' x' o' m' n es Di SK Jx
 have hwW:w'.heap[E.Wg]?=w.heap[E.Wg]?:=QO.block _ hs.ne.1
 have OI:l9 ((D.set i r').map ai.lT) o' m':=by rw[List.map_set,f1];exact hs.mi.step afR Di
 have hgp:=pR hi r' m'
 have hgm:=auS D m m'
 rw[f1,hx] at hgp
 refine bB.sync hb hs hp hm hd cJ (r':=r') (o':=o') (m':=m') hi hg hgo (.inr rfl) QO.size QO.block QO.later jb aNH cF.1 (fun afj=>?_) f3 cF.2.1 (by rw[f4,cF.2.2.1];exact Nat.le_refl _)
  (fun cl' hw _ _=>hs.fW hi hwW (by rw[f4,cF.2.2.1]) (by rw[f5,cF.2.2.2.1]) (by rw[f6,cF.2.2.2.2.1]) (by rw[f7,cF.2.2.2.2.2]) cl' hw) QO.now OI (fun h1=>⟨?_,.inl (de.pu.running SK)⟩) f2 ?_
 ·rcases htk afj with h1| ⟨k,rfl⟩
  ·exact .inl (f9 h1)
  refine .inr fun p hk=>?_
  have e1:=hur k rfl
  subst e1
  have e2:MemOp.ofEvents (i+1) g.frame.fn g.frame.place #[said (.releaseMerge (stA E.Mu))]= #[{g:=i+1,fn:=g.frame.fn,pos:=g.frame.place,act:= .mark (.releaseMerge (stA E.Mu))}]:=by rw[ofEvents_eq];simp[said,Go.ConcR.ofEvent_mk]
  rw[e2]
  have hy:(t++ #[({g:=i+1,fn:=g.frame.fn,pos:=g.frame.place,act:= .mark (.releaseMerge (stA E.Mu))}:MemOp)])[t.size]?=some {g:=i+1,fn:=g.frame.fn,pos:=g.frame.place,act:= .mark (.releaseMerge (stA E.Mu))}:=by simp
  exact⟨t.size,by rw[act?_of hy],⟨i+1,by simp[Trace.g?],by rw[deaf_old (Nat.le_refl _)];exact jN⟩,.inr (hk.hb_new (Nat.le_refl _) hy rfl)⟩
 ·rcases Di.up with h2|h2
  ·exact .inl (by omega)
  exact .inr (hus h2)
 rcases Di.lt bF (fun k e=>by rw[e] at y4;cases y4) with h2| ⟨rfl,rfl,h3,h4⟩
 ·exact .inl (by omega)
 exact .inr ⟨by omega,rfl,by unfold n8;rw[f8,zp];exact bZ (by simp only;omega)⟩
theorem bB.aol{x:aJ}{it:ι}{ls:List ι}(hi:D[i]?=some (.lk x 0 it ls)) (hg:gs[i+1]?=some g) (QP:g.status= .running) (y4:x.mid=true) (hS:x.zm=true→m=1):jV E Fin L0 K D pend cl o m os main d0 gs w sl t (i+1):=by
 obtain⟨bk,aN,bF⟩:=hb.ok i _ hi
 obtain rfl:bk=g:=by rw[hg] at aN;exact(Option.some.inj aN).symm
 obtain⟨h1,h2,h3,c,cs,h4,h5| ⟨_,_,fZ,_,e⟩⟩:=bF
 ·refine bB.mid hb hs hp hm hd cJ hi rfl hg h5 y4 hS h3 ⟨rfl,rfl,rfl,rfl,rfl,rfl⟩ (fun e=>by cases e) rfl fun g' x' o' m' n es Di SK jN=>?_
  obtain⟨k1,k2⟩:=Di.isL h1 y4
  exact⟨.lk x' n it ls,⟨k1,k2.trans h2,jN,c,cs,h4,.inl SK⟩,rfl,rfl,rfl,rfl,rfl,rfl,rfl,rfl,fun⟨k,e⟩=>by subst e;cases h1⟩
 rw[e] at QP;cases QP
theorem bB.ax1{x:aJ}{ls:List ι}(hi:D[i]?=some (.ul x 0 ls)) (hg:gs[i+1]?=some g) (y4:x.mid=true):jV E Fin L0 K D pend cl o m os main d0 gs w sl t (i+1):=by
 obtain⟨bk,aN,bF⟩:=hb.ok i _ hi
 obtain rfl:bk=g:=by rw[hg] at aN;exact(Option.some.inj aN).symm
 obtain⟨h1,h2,h3,c,cs,h4,h5⟩:=bF
 refine bB.mid hb hs hp hm hd cJ hi rfl hg h4 y4 (fun e=>by cases x<;>first| (cases h1;done)| (cases e;done)) h3 ⟨rfl,rfl,rfl,rfl,rfl,rfl⟩ (fun e=>?_) rfl fun g' x' o' m' n es Di SK jN=>?_
 ·cases x<;>first|exact .inl ⟨_,rfl⟩|exact .inr ⟨_,rfl⟩|cases e
 obtain⟨k1,k2⟩:=Di.isU h1 y4
 refine⟨.ul x' n ls,⟨k1,k2.trans h2,jN,c,cs,SK,h5⟩,rfl,rfl,rfl,rfl,rfl,rfl,rfl,rfl,fun⟨k,e⟩=>?_⟩
 subst e
 cases Di;rfl
theorem bB.block{x:aJ}{it:ι}{ls:List ι}(hi:D[i]?=some (.lk x 0 it ls)) (hg:gs[i+1]?=some g) (QP:g.status= .running) (hS:x.zm=true) (hm0:m≠1):jV E Fin L0 K D pend cl o m os main d0 gs w sl t (i+1):=by
 obtain⟨bk,aN,bF⟩:=hb.ok i _ hi
 obtain rfl:bk=g:=by rw[hg] at aN;exact(Option.some.inj aN).symm
 obtain⟨h1,h2,h3,c,cs,h4,h5'⟩:=bF
 have h5:=h5'.resolve_right fun⟨_,_,fZ,_,e⟩=>by rw[e] at QP;cases QP
 obtain⟨k,sv,rfl⟩:∃k sv,x= .s1 k sv:=by cases x<;>first|exact⟨_,_,rfl⟩|cases hS
 have hz:m=0:=by have:=(hs.few hb).2;omega
 subst hz
 have hgo:=E.M.block h5 hs.mu
 have bx:=runT_crowd_go (P:=E.P) (sl:=sl) (i:=i+1) hg (by simpa using hgo)
 have ew:gs.map (woken E.P bk {bk with status:= .blocked} w)=gs:=by
  have:woken E.P bk {bk with status:= .blocked} w=id:=by funext x;simp[Go.Conc.woken]
  rw[this,Array.map_id]
 rw[ew,vU] at bx
 have bO:=lt_size hg
 have lX:∀k,k≠i+1→(gs.setIfInBounds (i+1) {bk with status:= .blocked})[k]?=gs[k]?:=fun k hk=>Array.getElem?_setIfInBounds_ne (Ne.symm hk)
 refine⟨K,_,w,_,D,cl,o,0,main,bx,?_,rfl,fun _=>rfl,Iff.rfl,Nat.le_refl _,.r (Nat.le_refl _) rfl rfl rfl ?_⟩
 ·rw[Array.append_empty]
  refine⟨⟨L,l,⟨hb.fit,by simp[hb.size],fun k y hk=>?_,fun k hk=>hb.RN k (by simpa using hk),fun op av=>by simpa using hb.ops op av,hb.same⟩,⟨hs.kW,hs.kM,hs.lW,hs.lM,hs.lH,hs.ne,hs.norel,hs.plain,hs.said,hs.cells,hs.mX,hs.mu,hs.mi,fun e=>by omega,hs.bO,hs.nH,hs.Nm,by simpa using hs.gu⟩,hp⟩,by rw[lX 0 (by omega)];exact hm,hd,cJ⟩
  by_cases e:k=i
  ·subst e;rw[hi] at hk;cases hk
   exact⟨_,Array.getElem?_setIfInBounds_self_of_lt bO,h1,h2,h3,c,cs,h4,.inr ⟨rfl,rfl,bk,h5,rfl⟩⟩
  obtain⟨z,hz,bF⟩:=hb.ok k y hk
  exact⟨z,by rw[lX _ (by omega)];exact hz,bF⟩
 have hl:gs.toList[i+1]?=some bk:=by rw[Array.getElem?_toList];exact hg
 have:=eT (fun g:Goroutine=>if g.status= .running then 1 else 0) (y:={bk with status:= .blocked}) hl
 simp only[runN,Array.toList_setIfInBounds]
 rw[QP] at this
 simp at this
 omega
end
end
section
variable {ι:Type} {E:de ι} {Fin:Goroutine→Prop}
variable {L0 L L':Nat→Option Obj} {K:Nat→St} {gs:Array Goroutine} {w w':World} {t u:Trace} {D:List (ai ι)} {pend d0:Nat} {cl:rQ} {o:Wd} {m:Nat} {l os:List ι} {main:Goroutine} {sl:Option (Nat×Nat)}
 {i:Nat} {r r':ai ι} {g g':Goroutine} {s':St} {es:Array Event}
def HF(L0:Nat→Option Obj)(X:List (Nat×Obj)):Nat→Option Obj:=fun b=>match X.find? (fun y=>y.1==b) with
 |some y=>some y.2
 |none=>L0 b
theorem Rq{X:List (Nat×Obj)}(gX:(X.map (·.1)).Nodup):∀ {b:Nat} {o:Obj},(b,o)∈X→HF L0 X b=some o:=by
 induction X with
 |nil=>intro b o h;cases h
 |cons a X ih=>
  intro b o h
  simp only[List.map_cons,List.nodup_cons] at gX
  unfold HF
  simp only[List.find?_cons]
  rcases List.mem_cons.1 h with rfl|h
  ·simp
  have cF:(a.1==b)=false:=by
   simp only[beq_eq_false_iff_ne,ne_eq]
   rintro rfl
   exact gX.1 (List.mem_map.2 ⟨_,h,rfl⟩)
  rw[cF]
  exact ih gX.2 h
theorem Dr(X:List (Nat×Obj))(b:Nat):HF L0 X b=L0 b∨∃o,(b,o)∈X:=by
 unfold HF
 cases h:X.find? (fun y=>y.1==b) with
 |none=>exact .inl rfl
 |some y=>
  have h1:=List.mem_of_find?_eq_some h
  have h2:=List.find?_some h
  simp only[beq_iff_eq] at h2
  exact .inr ⟨y.2,by rw[←h2];exact h1⟩
theorem Bu{l1:List ι}(h:mP E l1 Stop g1 s):∀ {n:Nat} {g:Goroutine},Pure E.P false (fun _=>True) (· =g1) n g→(g1.status= .running)→mP E l1 Stop g s
 |0,g,hp,_=>by have:g=g1:=hp;subst this;exact h
 |n+1,g,⟨h1,g',h2,h3⟩,hs=>(nG l1 Stop).go h1 (Pure.running (fun _ e=>by rw[e];exact hs) h3) (fun w=>h2 w trivial) (Bu h h3 hs)
section
variable (hb:jM E L K gs w t D) (hs:s9 E L0 L K gs w t D pend cl o m l) (hp:E.LJ (l++fq D) os) (hm:gs[0]?=some main) (hd:Deaf t 0=d0) (cJ:mL E Fin main d0 cl)
include hb hs hp hm hd cJ
theorem bB.la{k:Nat}{it:ι}{ls:List ι}(hi:D[i]?=some (.lk (.la k) 0 it ls)) (hg:gs[i+1]?=some g):jV E Fin L0 K D pend cl o m os main d0 gs w sl t (i+1):=by
 obtain⟨bk,aN,bF⟩:=hb.ok i _ hi
 obtain rfl:bk=g:=by rw[hg] at aN;exact(Option.some.inj aN).symm
 obtain⟨_,h2,jN,c,cs,⟨my,Rf⟩,h5⟩:=bF
 have cb:=h5.resolve_right fun⟨_,e,_⟩=>by cases e
 obtain⟨g',hgo,n,SK⟩:=E.M.la cb
 have tL:∀j y,j≠i→D[j]?=some y→y.lT.H=1→False:=fun j y cF hj hy=>cF (hs.alone hi rfl hj hy)
 rcases hs.gu with ⟨j,o1,os1,tr1,hj,_⟩| ⟨Jr,v,X,Nw,gX,hX,hLs,hHb,htk⟩
 ·have:=hs.alone hi rfl hj rfl
  subst this
  rw[hi] at hj;cases hj
 have e1:MemOp.ofEvents (i+1) bk.frame.fn bk.frame.place #[said (.acquire (stA E.Mu))]= #[{g:=i+1,fn:=bk.frame.fn,pos:=bk.frame.place,act:= .mark (.acquire (stA E.Mu))}]:=by rw[ofEvents_eq];simp[said,Go.ConcR.ofEvent_mk]
 have hu:∀op∈MemOp.ofEvents (i+1) bk.frame.fn bk.frame.place #[said (.acquire (stA E.Mu))],op.g=i+1∧op.act= .mark (.acquire (stA E.Mu)):=by rw[e1];intro op av;simp at av;subst av;exact⟨rfl,rfl⟩
 have hy:(t++MemOp.ofEvents (i+1) bk.frame.fn bk.frame.place #[said (.acquire (stA E.Mu))])[t.size]?=some {g:=i+1,fn:=bk.frame.fn,pos:=bk.frame.place,act:= .mark (.acquire (stA E.Mu))}:=by rw[e1];simp
 have Jx:Deaf (t++MemOp.ofEvents (i+1) bk.frame.fn bk.frame.place #[said (.acquire (stA E.Mu))]) (i+1)=0:=by rw[Deaf_own,jN];rfl
 generalize Xq:MemOp.ofEvents (i+1) bk.frame.fn bk.frame.place #[said (.acquire (stA E.Mu))]=u at hu hy Jx
 have hmt:∀op∈u,op.act.touch?=none:=fun op av=>by rw[(hu op av).2];rfl
 have nt:∀(P:Touch→Prop),∀op∈u,∀x,op.act.touch?=some x→P x:=fun P op av x hx=>by rw[hmt op av] at hx;cases hx
 have bai:i+1 <gs.size:=lt_size hg
 have heard:(t++u).heard t.size:=⟨i+1,by simp only[Trace.g?,hy,Option.map_some],by rw[deaf_old (Nat.le_refl _)];exact jN⟩
 have bR:∀p x,touchAt (t++u) p=some x→Yv E X x→Knows (t++u) (i+1) p:=fun p x hx hgx=>by
  have iM:touchAt t p=some x:=by
   rcases aI hx with ⟨_,h'⟩| ⟨_,op,av,_,oK⟩
   ·exact h'
   rw[hmt op av] at oK;cases oK
  rcases htk p x iM hgx with h7| ⟨q,q1,q2,q3⟩| ⟨j,y,hj,hyt,ban⟩
  ·exact(h7.2 i _ hi rfl).app u
  ·have hq:=lt_of_act? q1
   have HT:HappensBefore (t++u) q t.size:= .single (.inr ⟨.marked hq (.inr (by rw[act?_old hq];exact q1)) (by rw[act?_of hy]) (fun k _ hk=>by rw[act?_old (by omega)];exact hs.norel _ k),(heard_old hq).2 q2,heard⟩)
   exact⟨t.size,_,hy,rfl,.inr ((q3.app u).hb HT)⟩
  exfalso
  have hyH:y.lT.H=1:=by
   cases y with
   |post _ _=>rfl
   |ul z _ _=>cases z<;>first|rfl|cases hyt
   |_=>cases hyt
  have:=hs.alone hi rfl hj hyH
  subst this
  rw[hi] at hj;cases hj;cases hyt
 have xJ:Fit L K w (t++u):=hb.fit.quiet E.Wg hs.kW hs.lW (Nat.le_refl _) (fun _ _ _=>rfl) hmt
 have BJ:=xJ.take (L':=L0) (i:=i+1) (X:=X) (full:=E.full v) (hc:=E.hc) (ht:=E.ht) hLs hX gX my rfl hHb fun p x hx hgx=>bR p x hx hgx
 have Fg:l.length <E.mxl:=by
  have h1:=hp.1.length_eq
  have h2:=hp.2
  have h3:=(yH (r':= .leave 0 0 false) hi).length_eq
  simp only[List.length_append,ai.tT,List.length_cons,List.length_nil] at h1 h3
  omega
 obtain⟨tr,dO,hle,Eu⟩:=Bu (Rf l v X Nw Fg) SK (by rfl)
 have nkX:∀b,(∀o,(b,o)∈X→False)→¬(K (i+1)).knows b→b≠E.Hb→¬dO.knows b:=fun b h1 h2 h3 hk=>by
  rcases hle.knows hk with h4| ⟨o',h4⟩
  ·exact h2 (.inl (by simpa [gx,h3] using h4))
  rcases List.mem_append.1 h4 with h5|h5
  ·exact h1 o' h5
  exact h2 (.inr ⟨o',h5⟩)
 have akw:∀b,L b=none→∀o,(b,o)∈X→False:=fun b hb o h=>by have:=(hX b o h).1;rw[hb] at this;cases this
 have L0n:∀b,L b=none→L0 b=none:=fun b hb=>by
  cases h':L0 b with
  |none=>rfl
  |some o=>rw[hLs b o h'] at hb;cases hb
 have hgp:=pR hi (.qE it ls l tr) m
 simp only[ai.lT,aJ.Cf] at hgp
 have h2':k=ls.length:=h2
 refine bB.go hb hs hp hm hd cJ (L':=L0) (r':= .qE it ls l tr) (s':=dO) (l':=l) (o':=o) (m':=m) hi hg (hgo w) Xq.symm (iC.refl w) (nkX _ (akw _ hs.lW) (hs.kW _) (Ne.symm hs.ne.2.1)) (nkX _ (akw _ hs.lM) (hs.kM _) (Ne.symm hs.ne.2.2)) (fun ho=>?_) (fun _ _=> .inr rfl) hs.bO (L0n _ hs.lW) (L0n _ hs.lM) (L0n _ hs.lH)
  (BJ.le fun j=>?_) ⟨Jx,fun p x hx hh=>bR p x hx (.inr hh),fun x hx=>?_,Eu⟩ (fun op av x hx=>nt (fun x=>E.At x→x.kind= .atomic) op av x hx) (fun op av a=>by rw[(hu op av).2];simp) (fun _=>rfl) (fun _ _ _ _ _ _ op av x hx=>nt (fun x=>¬ko E.Hb x.loc) op av x hx) (Nat.le_refl _)
  (fun cl' hw _ _=>hs.fW (r':= .qE it ls l tr) hi rfl rfl rfl rfl rfl cl' hw) hs.mu ?_ (fun h=>⟨.inl h,.inl ?_⟩) (.inl ⟨i,it,ls,tr,uI hi,rfl⟩) ((oN (r:= .lk (.la k) 0 it ls) (r':= .qE it ls l tr) rfl hi).append_left _) (.inr ⟨by omega,rfl,bZ (by simp[ai.mu,aJ.fO])⟩)
 ·obtain⟨o',h4⟩:=hle.owns ho
  rcases List.mem_append.1 h4 with h5|h5
  ·exact akw _ hs.lH o' h5
  exact hs.nH _ ⟨o',h5⟩
 ·by_cases e:j=i+1
  ·subst e;rw[au,au];exact hle
  rw[aA _ _ e,aA _ _ e];exact St.le_refl _
 ·rcases hle.aR (by rw[hx];simp) with h4| ⟨o',h4⟩
  ·rw[hx] at h4
   simp only[gI] at h4
   rw[Option.some.inj h4];rfl
  rcases List.mem_append.1 h4 with h5|h5
  ·exact absurd h5 (akw _ hs.lH o')
  exact absurd ⟨o',h5⟩ (hs.nH (i+1))
 ·have:=hs.mi.step (s9.Qt hi) (x':= .own k) (w':=o) (m':=m) .la
  rw[List.map_set]
  simp only[ai.lT]
  rw[←h2'];exact this
 exact nY.running (fun _ _ y=>de.So.running y) Eu
theorem bB.store{it:ι}{ls l1:List ι}{tr0 tr:Tree}{dO:St}{v:Value}{X Y:List (Nat×Obj)}{c:Array Value}(hi:D[i]?=some (.qE it ls l1 tr0)) (hg:gs[i+1]?=some g) (jN:Deaf t (i+1)=0) (aoC:wh E.Hb t (i+1))
 (my:(K (i+1)).ro E.Hb=some (.cells c E.ht (0,0))) (r5:qg <c.size) (hcs:c.size=E.hc.size) (hce:∀j,j≠qg→c[j]?=E.hc[j]?) (AJ:(K (i+1)).rw.Perm (X++Y)) (Nw:E.Gd (l1++[it]) v X)
 (bE:stepG E.P false g w= .go g' (w.setCell ⟨E.Hb,qg,none⟩ v) #[⟨.cell ⟨E.Hb,qg,none⟩,true,false⟩]) (hle:dO.le ⟨gx (K (i+1)).ro E.Hb E.hole,Y⟩) (Eu:nY E (l1++[it]) (E.So (E.Stp ls) ls.length) tr g' dO):jV E Fin L0 K D pend cl o m os main d0 gs w sl t (i+1):=by
 have vG:l1=l∧L0=L:=by
  rcases hs.gu with ⟨j,o1,os1,tr1,hj,e⟩| ⟨tL,_⟩
  ·have:=hs.alone hi rfl hj rfl
   subst this
   rw[hi] at hj;cases hj;exact⟨rfl,e.symm⟩
  have:=tL i _ hi;cases this
 obtain⟨rfl,hLL⟩:=vG
 subst hLL
 have uniq:∀j y,j≠i→D[j]?=some y→y.ep=true→False:=fun j y cF hj hy=>cF (hs.alone hi rfl hj (by cases y<;>first|rfl|cases hy))
 have ha:=hb.fit.iX (i+1)
 have UP:(X.map (·.1)).Nodup:=by
  have gX:=(AJ.map (·.1)).nodup_iff.1 ha.nodup
  rw[List.map_append,List.nodup_append] at gX
  exact gX.1
 have Xu:∀b o,(b,o)∈X→(K (i+1)).owns b:=fun b o h=>⟨o,AJ.mem_iff.2 (by simp[h])⟩
 have aDE:∀b o,(b,o)∈X→L0 b=none:=fun b o h=>hb.fit.iB _ b (Xu b o h)
 have jP:=hb.fit.give (L':=HF L0 X) (i:=i+1) (Hb:=E.Hb) (X:=X) (Y:=Y) (hc:=E.hc) (ht:=E.ht) (c:=c) (v:=v) (fun b=>Dr X b) (fun b o h=>Rq UP h) AJ my r5 E.hht hcs hce hs.lH (fun j hj y hy=>by
  rcases hs.Nm j y hy with rfl| ⟨k,z,rfl,hk,hz⟩
  ·rfl
  exact absurd hz (by
   cases hzc:z.ep with
   |false=>simp
   |true=>exact(uniq k z (by omega) hk hzc).elim)) aoC g.frame.fn g.frame.place
 have e1:MemOp.ofEvents (i+1) g.frame.fn g.frame.place #[⟨.cell ⟨E.Hb,qg,none⟩,true,false⟩]= #[{g:=i+1,fn:=g.frame.fn,pos:=g.frame.place,act:= .access ⟨.cell ⟨E.Hb,qg,none⟩,true,false⟩}]:=by rw[ofEvents_eq];simp[MemAct.ofEvent]
 have hu:∀op∈MemOp.ofEvents (i+1) g.frame.fn g.frame.place #[⟨.cell ⟨E.Hb,qg,none⟩,true,false⟩],op.g=i+1∧op.act= .access ⟨.cell ⟨E.Hb,qg,none⟩,true,false⟩:=by rw[e1];intro op av;simp at av;subst av;exact⟨rfl,rfl⟩
 have Jx:Deaf (t++MemOp.ofEvents (i+1) g.frame.fn g.frame.place #[⟨.cell ⟨E.Hb,qg,none⟩,true,false⟩]) (i+1)=0:=by rw[Deaf_own,jN];rfl
 generalize Xq:MemOp.ofEvents (i+1) g.frame.fn g.frame.place #[⟨.cell ⟨E.Hb,qg,none⟩,true,false⟩]=u at hu Jx jP
 have UF:∀op∈u,∀x,op.act.touch?=some x→x=⟨.cell ⟨E.Hb,qg,none⟩,true,.plain⟩:=fun op av x hx=>by
  rw[(hu op av).2] at hx;simp only[MemAct.touch?,Bool.false_eq_true,if_false,Option.some.injEq] at hx;exact hx.symm
 have hwo:∀b,b≠E.Hb→(w.setCell ⟨E.Hb,qg,none⟩ v).heap[b]?=w.heap[b]?:=fun b hb=>by simp[World.setCell,Array.getElem?_modify,Ne.symm hb]
 have SH:w.heap[E.Hb]?=some (.cells c E.ht (0,0)):=(ha.ro E.Hb _ my).elim (·.1) fun h=>h.elim (fun⟨_,_,_,e,_⟩=>by cases e) fun⟨_,_,e,_⟩=>by cases e
 have hw':(w.setCell ⟨E.Hb,qg,none⟩ v).heap[E.Hb]?=some (E.full v):=by
  have:(w.setCell ⟨E.Hb,qg,none⟩ v).heap[E.Hb]?=some (.cells (c.setIfInBounds qg v) E.ht (0,0)):=by simp[World.setCell,Array.getElem?_modify,SH]
  rw[this,de.full]
  congr 2
  apply Array.ext_getElem?
  intro j
  by_cases e:j=qg
  ·subst e;simp[r5,←hcs]
  rw[Array.getElem?_setIfInBounds_ne (Ne.symm e),Array.getElem?_setIfInBounds_ne (Ne.symm e)];exact hce j e
 have kY:∀b,dO.knows b→(K (i+1)).knows b∧∀o,(b,o)∉X:=fun b hk=>by
  have gX:=(AJ.map (·.1)).nodup_iff.1 ha.nodup
  rw[List.map_append,List.nodup_append] at gX
  rcases hle.knows hk with h4| ⟨o',h4⟩
  ·have hr:(K (i+1)).ro b≠none:=by
    by_cases e:b=E.Hb
    ·subst e;rw[my];simp
    simpa [gx,e] using h4
   exact⟨.inl hr,fun o ho=>hr (ha.apart b o (AJ.mem_iff.2 (by simp[ho])))⟩
  exact⟨.inr ⟨o',AJ.mem_iff.2 (by simp[h4])⟩,fun o ho=>gX.2.2 b (List.mem_map.2 ⟨_,ho,rfl⟩) b (List.mem_map.2 ⟨_,h4,rfl⟩) rfl⟩
 have gL:∀b,¬(K (i+1)).owns b→L0 b=none→HF L0 X b=none:=fun b h1 h2=>by
  rcases Dr (L0:=L0) X b with h3| ⟨o,h3⟩
  ·rw[h3];exact h2
  exact absurd (Xu b o h3) h1
 have hgp:=pR hi (.post ls tr) m
 simp only[ai.lT,aJ.Cf] at hgp
 have bx:g'.status= .running:=nY.running (fun _ _ x=>de.So.running x) Eu
 refine bB.go hb hs hp hm hd cJ (L':=HF L0 X) (r':= .post ls tr) (s':=dO) (l':=l1++[it]) (o':=o) (m':=m) hi hg bE Xq.symm ⟨OsLater.refl _,rfl⟩ (fun hk=>hs.kW _ (kY _ hk).1) (fun hk=>hs.kM _ (kY _ hk).1) (fun ho=>?_) (fun x hx=> .inl ?_) (lt_size hw')
  (gL _ (fun ho=>hs.kW _ (.inr ho)) hs.lW) (gL _ (fun ho=>hs.kM _ (.inr ho)) hs.lM) (gL _ (hs.nH _) hs.lH) (jP.le fun j=>?_) ⟨Jx,_,Eu⟩ (fun op av x hx cb=>?_) (fun op av a=>by rw[(hu op av).2];simp) (fun _=>rfl) (fun e=>by cases e) (Nat.le_refl _)
  (fun cl' hw _ _=>hs.fW (r':= .post ls tr) hi (hwo _ (Ne.symm hs.ne.2.1)) rfl rfl rfl rfl cl' hw) (by unfold MuAt;rw[hwo _ (Ne.symm hs.ne.2.2)];exact hs.mu) (G0 (r:= .qE it ls l1 tr0) hs.mi rfl hi) (fun h=>⟨.inl h,.inl bx⟩) (.inr ⟨fun k y hk=>?_,v,X,Nw,UP,fun b o h=>⟨Rq UP h,aDE b o h,ha.real b o (AJ.mem_iff.2 (by simp[h])),fun j hk=>?_⟩,fun b o h=>?_,hw',fun p x hx hgx=>?_⟩) ?_ (.inr ⟨by omega,rfl,bZ (by simp[ai.mu])⟩)
 ·obtain⟨o',h4⟩:=hle.owns ho
  exact hs.nH _ ⟨o',AJ.mem_iff.2 (by simp[h4])⟩
 ·rcases hle.aR (by rw[hx];simp) with h4| ⟨o',h4⟩
  ·rw[hx] at h4
   simp only[gI] at h4
   exact Option.some.inj h4
  exact absurd ⟨o',AJ.mem_iff.2 (by simp[h4])⟩ (hs.nH (i+1))
 ·by_cases e:j=i+1
  ·subst e;rw[au,au];exact hle
  rw[aA _ _ e,aA _ _ e];exact St.le_refl _
 ·obtain rfl:=UF op av x hx
  rcases cb with e|e
  ·exact absurd (Option.some.inj e) hs.ne.2.1
  exact absurd (Option.some.inj e) hs.ne.2.2
 ·rcases oM hk with ⟨_,rfl⟩| ⟨cF,iU⟩
  ·rfl
  cases hy:y.ep with
  |false=>rfl
  |true=>exact(uniq k y cF iU hy).elim
 ·by_cases e:j=i+1
  ·subst e;rw[au] at hk;exact(kY b hk).2 o h
  rw[aA _ _ e] at hk;exact hb.fit.sep (i+1) j b (Ne.symm e) (Xu b o h) hk
 ·rcases Dr (L0:=L0) X b with h3| ⟨o',h3⟩
  ·rw[h3];exact h
  rw[aDE b o' h3] at h;cases h
 ·refine .inr (.inr ⟨i,.post ls tr,uI hi,rfl,?_⟩)
  rcases aI hx with ⟨_,iM⟩| ⟨_,op,av,ho,oK⟩
  ·rcases hgx with ⟨b,o,h,OG⟩|hh
   ·exact(hb.fit.perm _ b (Xu b o h) p x iM OG).app u
   exact(aoC p x iM hh).app u
  have:=knows_own ho;rwa[(hu op av).1] at this
 have h1:=yH (r':= .post ls tr) hi
 simp only[ai.tT] at h1
 have h2:(fq D).Perm (it::fq (D.set i (.post ls tr))):=by
  refine(List.perm_append_right_iff ls).1 (h1.symm.trans ?_)
  rw[List.cons_append]
  exact List.perm_middle
 rw[List.append_assoc]
 exact(h2.symm).append_left _
theorem bB.qE{it:ι}{ls l1:List ι}{tr0:Tree}(hi:D[i]?=some (.qE it ls l1 tr0)) (hg:gs[i+1]?=some g):jV E Fin L0 K D pend cl o m os main d0 gs w sl t (i+1):=by
 obtain⟨bk,aN,bF⟩:=hb.ok i _ hi
 obtain rfl:bk=g:=by rw[hg] at aN;exact(Option.some.inj aN).symm
 obtain⟨jN,htk,Fc,Eu⟩:=bF
 cases tr0 with
 |leaf=>have:=Fc _ Eu.1;cases this
 |node f=>
  obtain⟨bE,gz⟩:=Eu
  obtain⟨g',w',es,s',h1,h2,h3| ⟨v,X,Y,c,k1,k2,k3,k4,k5,k6,rfl,rfl,k9⟩,h4⟩:=gz w (hb.fit.iX _)
  ·exact bB.own hb hs hp hm hd cJ (r':= .qE it ls l1 (f w)) hi hg h1 h3 h2 (fun e e1 e2=>⟨e.trans jN,e2 rfl htk,fun x hx=>Fc x (e1 x hx),h4⟩) rfl rfl ⟨rfl,rfl,rfl,rfl⟩ rfl rfl rfl (fun _=>⟨_,_,_,_,_,rfl,rfl⟩) (uy (.mk f w))
  exact bB.store hb hs hp hm hd cJ hi hg jN htk k1 k2 k3 k4 k5 k6 h1 k9 h4
theorem bB.post{ls:List ι}{f:World→Tree}(hi:D[i]?=some (.post ls (.node f))) (hg:gs[i+1]?=some g):jV E Fin L0 K D pend cl o m os main d0 gs w sl t (i+1):=by
 obtain⟨bk,aN,bF⟩:=hb.ok i _ hi
 obtain rfl:bk=g:=by rw[hg] at aN;exact(Option.some.inj aN).symm
 obtain⟨jN,l1,bE,gz⟩:=bF
 obtain⟨g',w',es,s',h1,h2,h3| ⟨v,X,Y,c,k1,_⟩,h4⟩:=gz w (hb.fit.iX _)
 ·exact bB.own hb hs hp hm hd cJ (r':= .post ls (f w)) hi hg h1 h3 h2 (fun e _ _=>⟨e.trans jN,l1,h4⟩) rfl rfl ⟨rfl,rfl,rfl,rfl⟩ rfl rfl rfl (fun e=>by cases e) (uy (.mk f w))
 have:=hs.yD hi rfl _ k1
 cases this
theorem bB.ue{k:Nat}{ls:List ι}(hi:D[i]?=some (.ul (.ue k) 0 ls)) (hg:gs[i+1]?=some g):jV E Fin L0 K D pend cl o m os main d0 gs w sl t (i+1):=by
 obtain⟨bk,aN,bF⟩:=hb.ok i _ hi
 obtain rfl:bk=g:=by rw[hg] at aN;exact(Option.some.inj aN).symm
 obtain⟨_,h2,jN,c,cs,cb,tN,afI⟩:=bF
 obtain⟨g',hgo,n,SK⟩:=E.M.ue cb tN
 obtain⟨tr,dO,hle,Eu⟩:=Ei afI SK rfl
 have jb:∀e∈ #[said .enable],oV E.Mu e:=by intro e he;simp at he;subst he;exact .inr (.inl rfl)
 have ho:=oV.ops jb (i+1) bk.frame.fn bk.frame.place
 have nt:∀(P:Touch→Prop),∀op∈MemOp.ofEvents (i+1) bk.frame.fn bk.frame.place #[said .enable],∀x,op.act.touch?=some x→P x:=fun P op av x hx=>by
  rw[ofEvents_eq] at av
  simp[said,Go.ConcR.ofEvent_mk] at av
  subst av;cases hx
 have hgp:=pR hi (.work ls tr) m
 have h2':k=ls.length:=h2
 simp only[ai.lT,aJ.Cf] at hgp
 refine bB.go hb hs hp hm hd cJ (L':=L) (r':= .work ls tr) (s':=dO) (l':=l) (o':=o) (m':=m) hi hg (hgo w) rfl (iC.refl w) (fun hk=>hs.kW _ (hle.knows hk)) (fun hk=>hs.kM _ (hle.knows hk)) (fun h=>hs.nH _ (hle.owns h)) (fun x hx=> .inl ?_) hs.bO hs.lW hs.lM hs.lH
  ((hs.pU hb.fit (w':=w) (.inr ⟨i,_,rfl,hi,rfl⟩) (.inr rfl) rfl (fun _ _=>rfl) jb _ _).le fun j=>?_) ⟨by rw[Deaf_own,jN];rfl,Eu⟩ (fun op av x hx=>nt (fun x=>E.At x→x.kind= .atomic) op av x hx) (fun op av=>(ho op av).2.1) (fun _=>rfl) (fun _ _ _ _ _ _ op av x hx=>nt (fun x=>¬ko E.Hb x.loc) op av x hx) (Nat.le_refl _)
  (fun cl' hw _ _=>hs.fW (r':= .work ls tr) hi rfl rfl rfl rfl rfl cl' hw) hs.mu ?_ (fun h=>⟨.inl h,.inl (lF.running (fun _ _ x=>de.Stp.running x) Eu)⟩) ?_ ((oN (r:= .ul (.ue k) 0 ls) (r':= .work ls tr) rfl hi).append_left _) (.inr ⟨by omega,rfl,bZ (by simp[ai.mu,aJ.fO])⟩)
 ·rcases hle.aR (by rw[hx];simp) with h4|h4
  ·exact hs.yD hi rfl x (by rw[←h4];exact hx)
  exact absurd h4 (hs.nH _)
 ·by_cases e:j=i+1
  ·subst e;rw[au];exact hle
  rw[aA _ _ e];exact St.le_refl _
 ·have:=hs.mi.step (s9.Qt hi) (x':= .out k) (w':=o) (m':=m) .ue
  rw[List.map_set]
  simp only[ai.lT]
  rw[←h2'];exact this
 exact hs.gu.step hi rfl rfl (fun _=>rfl) (fun e=>by cases e) (fun b _ h1 h2=>h1 (hle.knows h2)) rfl fun op av x hx=>nt (fun x=>¬ko E.Hb x.loc∧∀b,blk x.loc=some b→L b≠none→(K (i+1)).knows b) op av x hx
end
theorem bB.aqZ(h:bB E Fin L0 K gs w t D pend cl o m os main d0)(hi:D[i]?=some r) (hg:gs[i+1]?=some g) (hle:s'.le (K (i+1))) (hr:fI E t (i+1) (K (i+1)) g r→fI E t (i+1) s' g r') (hc:r'.cnt=r.cnt∧r'.c4=r.c4∧r'.c3=r.c3∧r'.c2=r.c2) (ho:r'.tT=r.tT)
 (OI:l9 (D.map ai.lT) o m→l9 ((D.set i r').map ai.lT) o m) (h1:r.ep=false) (h2:r'.ep=false) (h3:r.tok=true→r'.tok=true) (h4:r.left=false):
 bB E Fin L0 (dL K (i+1) s') gs w t (D.set i r') pend cl o m os main d0:=by
 obtain⟨⟨L,l,hb,hs,hp⟩,hm,hd,cJ⟩:=h
 have aaa:∀j,(dL K (i+1) s' j).le (K j):=fun j=>by
  by_cases e:j=i+1
  ·subst e;rw[au];exact hle
  rw[aA _ _ e];exact St.le_refl _
 refine⟨⟨L,l,⟨hb.fit.le aaa,by simp[hb.size],fun k y hk=>?_,fun k hk b h=>hb.RN k hk b ((aaa k).knows h),hb.ops,hb.same⟩,
  ⟨fun j hj=>hs.kW j ((aaa j).knows hj),fun j hj=>hs.kM j ((aaa j).knows hj),hs.lW,hs.lM,hs.lH,hs.ne,hs.norel,fun j hj=>hs.plain j ?_,hs.said,?_,?_,hs.mu,OI hs.mi,hs.Qh,hs.bO,fun j hj=>hs.nH j ((aaa j).owns hj),fun j x hx=>?_,?_⟩,⟨((oN ho hi).append_left _).trans hp.1,hp.2⟩⟩,hm,hd,cJ⟩
 ·rcases oM hk with ⟨rfl,rfl⟩| ⟨cF,iU⟩
  ·obtain⟨z,hz,bF⟩:=hb.ok _ _ hi
   rw[hg] at hz;cases hz
   exact⟨g,hg,by rw[au];exact hr bF⟩
  rw[aA _ _ (by omega)];exact hb.ok k y iU
 ·rcases hj with hj| ⟨k,y,rfl,hk,hl⟩
  ·exact .inl hj
  rcases oM hk with ⟨rfl,rfl⟩| ⟨_,iU⟩
  ·exact .inr ⟨_,_,rfl,hi,h4⟩
  exact .inr ⟨k,y,rfl,iU,hl⟩
 ·obtain⟨st,sm,ha,fE⟩:=hs.cells
  exact⟨st,sm,ha,BO hi (by omega) (by omega) (by omega) (by omega) fE⟩
 ·have:=eT ai.cnt (y:=r') hi
  have h5:=hs.mX
  simp only[cG] at*;omega
 ·have hj:(K j).ro E.Hb=some x:=by
   rcases(aaa j).aR (by rw[hx];simp) with h6|h6
   ·rw[←h6];exact hx
   exact absurd h6 (hs.nH j)
  rcases hs.Nm j x hj with h6| ⟨k,y,rfl,hk,hy⟩
  ·exact .inl h6
  by_cases e:k=i
  ·subst e;rw[hi] at hk;cases hk;rw[h1] at hy;cases hy
  exact .inr ⟨k,y,rfl,rz hk e,hy⟩
 have:=hs.gu.step (u:= #[]) (s':=s') hi h1 h2 (fun _=>h4) (fun e=> .inl (h3 e)) (fun b _ h7 h8=>h7 (hle.knows h8)) (w':=w) rfl (by simp)
 rwa[Array.append_empty] at this
end
section
variable {ι:Type} {E:de ι} {Fin:Goroutine→Prop}
variable {L0 L L':Nat→Option Obj} {K:Nat→St} {gs:Array Goroutine} {w w':World} {t u:Trace} {D:List (ai ι)} {pend d0:Nat} {cl:rQ} {o:Wd} {m:Nat} {l os:List ι} {main:Goroutine} {sl:Option (Nat×Nat)}
 {i:Nat} {r r':ai ι} {g g':Goroutine} {s':St} {es:Array Event}
def ai.quiet:ai ι→Bool
 | .work _ .leaf| .post _ .leaf=>true
 |_=>false
theorem bB.other(h:bB E Fin L0 K gs w t D pend cl o m os main d0)(hg:gs[i+1]?=some g) (QP:g.status= .running) (hq:∀r,D[i]?=some r→r.quiet=false):jV E Fin L0 K D pend cl o m os main d0 gs w sl t (i+1):=by
 obtain⟨⟨L,l,hb,hs,hp⟩,hm,hd,cJ⟩:=h
 have bO:i <D.length:=by have:=lt_size hg;have:=hb.size;omega
 have hD:D[i]?=some D[i]:=List.getElem?_eq_getElem bO
 have hq:=hq _ hD
 obtain⟨x,hx,bF⟩:=hb.ok i _ hD
 obtain rfl:x=g:=by rw[hg] at hx;exact(Option.some.inj hx).symm
 generalize D[i]=r at hD bF hq
 match r,hD,bF,hq with
 | .leave q d c,hD,_,_=>exact bB.leave hb hs hp hm hd cJ hD hg QP
 | .work ls (.node f),hD,_,_=>exact bB.work hb hs hp hm hd cJ hD hg
 | .work ls .leaf,_,_,hq=>cases hq
 | .lk x (n+1) it ls,hD,_,_=>exact bB.ar8 hb hs hp hm hd cJ hD hg
 | .lk x 0 it ls,hD,bF,_=>
  by_cases hS:x.zm=true
  ·by_cases mh:m=1
   ·exact bB.aol hb hs hp hm hd cJ hD hg QP (by cases x<;>first|rfl|cases hS) fun _=>mh
   exact bB.block hb hs hp hm hd cJ hD hg QP hS mh
  by_cases hla:∃k,x= .la k
  ·obtain⟨k,rfl⟩:=hla
   exact bB.la hb hs hp hm hd cJ hD hg
  have h1:=bF.1
  exact bB.aol hb hs hp hm hd cJ hD hg QP (by cases x<;>first|rfl| (cases h1;done)|exact absurd ⟨_,rfl⟩ hla) fun e=>absurd e hS
 | .qE it ls l1 tr0,hD,_,_=>exact bB.qE hb hs hp hm hd cJ hD hg
 | .post ls (.node f),hD,_,_=>exact bB.post hb hs hp hm hd cJ hD hg
 | .post ls .leaf,_,_,hq=>cases hq
 | .ul x (n+1) ls,hD,_,_=>exact bB.aqL hb hs hp hm hd cJ hD hg
 | .ul x 0 ls,hD,bF,_=>
  by_cases Xq:∃k,x= .ue k
  ·obtain⟨k,rfl⟩:=Xq
   exact bB.ue hb hs hp hm hd cJ hD hg
  have h1:=bF.1
  exact bB.ax1 hb hs hp hm hd cJ hD hg (by cases x<;>first|rfl| (cases h1;done)|exact absurd ⟨_,rfl⟩ Xq)
 | .st k (n+1),hD,_,_=>exact bB.Td hb hs hp hm hd cJ hD hg
 | .st .r0 0,hD,_,_=>exact bB.r0 hb hs hp hm hd cJ hD hg
 | .st .k1 0,hD,_,_=>exact bB.k1 hb hs hp hm hd cJ hD hg
 | .st .d1 0,hD,_,_=>exact bB.d1 hb hs hp hm hd cJ hD hg
 | .st .d2 0,hD,_,_=>exact bB.d2 hb hs hp hm hd cJ hD hg
 | .st .d3 0,hD,_,_=>exact bB.d3 hb hs hp hm hd cJ hD hg
 | .st .d4 0,hD,_,_=>exact bB.d4 hb hs hp hm hd cJ hD hg
theorem bB.norm(h:bB E Fin L0 K gs w t D pend cl o m os main d0)(hi:D[i]?=some r) (hq:r.quiet=true):
 ∃K' D',bB E Fin L0 K' gs w t D' pend cl o m os main d0∧K' 0=K 0∧cG ai.cnt D'≤cG ai.cnt D∧∀c n,wN ⟨D',o,m,c,n⟩ ⟨D,o,m,c,n⟩:=by
 obtain⟨L,l,hb,hs,hp⟩:=h.bs
 obtain⟨g,hg,bF⟩:=hb.ok i _ hi
 have fin:∀(r':ai ι) (s':St),s'.le (K (i+1))→(fI E t (i+1) (K (i+1)) g r→fI E t (i+1) s' g r')→(r'.cnt=r.cnt∧r'.c4=r.c4∧r'.c3=r.c3∧r'.c2=r.c2)→r'.tT=r.tT→(l9 (D.map ai.lT) o m→l9 ((D.set i r').map ai.lT) o m)→
  r.ep=false→r'.ep=false→(r.tok=true→r'.tok=true)→r.left=false→r'.lT.Cf=r.lT.Cf→n8 o r' r→
  ∃K' D',bB E Fin L0 K' gs w t D' pend cl o m os main d0∧K' 0=K 0∧cG ai.cnt D'≤cG ai.cnt D∧∀c n,wN ⟨D',o,m,c,n⟩ ⟨D,o,m,c,n⟩:=by
  intro r' s' h1 h2 h3 h4 h5 h6 h7 h8 h9 A7 zb
  refine⟨_,_,h.aqZ hi hg h1 h2 h3 h4 h5 h6 h7 h8 h9,aA _ _ (by omega),?_,fun c n=> .d ?_ rfl (One.set hi zb)⟩
  ·have:=eT ai.cnt (y:=r') hi
   simp only[cG];omega
  have:=pR hi r' m
  show xL (D.set i r') m≤xL D m
  omega
 have hr:r= .work [] .leaf∨(∃it ls,r= .work (it::ls) .leaf)∨∃ls,r= .post ls .leaf:=by
  cases r with
  |work ls tr=>cases tr with
   |leaf=>cases ls with
    |nil=>exact .inl rfl
    |cons a b=>exact .inr (.inl ⟨a,b,rfl⟩)
   |node f=>cases hq
  |post ls tr=>cases tr with
   |leaf=>exact .inr (.inr ⟨ls,rfl⟩)
   |node f=>cases hq
  |_=>cases hq
 clear hq
 rcases hr with rfl| ⟨it,ls,rfl⟩| ⟨ls,rfl⟩
 ·obtain⟨jN,n,SK⟩:=bF
  exact fin (.st .r0 n) ⟨fun _=>none,[]⟩ ⟨(K (i+1)).rw,by simp,fun b o hb=>(by cases hb)⟩ (fun _=>⟨rfl,jN,SK,fun e=>by cases e⟩) ⟨rfl,rfl,rfl,rfl⟩ rfl (fun h=>G0 (r:= .work [] .leaf) h rfl hi) rfl rfl (fun e=>by cases e) rfl rfl (bZ (by simp[ai.mu,WK.fO]))
 ·obtain⟨jN,c,cs,n,SK,Rf⟩:=bF
  refine fin (.lk (.ld ls.length) n it ls) (K (i+1)) (St.le_refl _) (fun _=>⟨rfl,rfl,jN,c,cs,Rf,.inl SK⟩) ⟨rfl,rfl,rfl,rfl⟩ rfl (fun h=>?_) rfl rfl (fun e=>by cases e) rfl ?_ (bZ (by simp[ai.mu,aJ.fO]))
  ·rw[List.map_set]
   exact h.step (s9.Qt hi) .out
  simp only[ai.lT,aJ.Cf,List.length_cons];omega
 obtain⟨jN,l1,_,c,cs,n,SK,tN,Di⟩:=bF
 refine fin (.ul (.ui ls.length) n ls) (K (i+1)) (St.le_refl _) (fun _=>⟨rfl,rfl,jN,c,cs,SK,tN,Di⟩) ⟨rfl,rfl,rfl,rfl⟩ rfl (fun h=>?_) rfl rfl (fun e=>rfl) rfl rfl (bZ (by simp[ai.mu,aJ.fO]))
 rw[List.map_set]
 exact h.step (s9.Qt hi) .own
theorem jM.at(h:jM E L K gs w t D)(d:Nat):jM E L K gs (w.at d) t D:=⟨h.fit.at d,h.size,h.ok,h.RN,h.ops,h.same⟩
theorem bB.at(h:bB E Fin L0 K gs w t D pend cl o m os main d0)(d:Nat):bB E Fin L0 K gs (w.at d) t D pend cl o m os main d0:=by
 obtain⟨⟨L,l,hb,hs,hp⟩,hm,hd,cJ⟩:=h
 exact⟨⟨L,l,hb.at d,⟨hs.kW,hs.kM,hs.lW,hs.lM,hs.lH,hs.ne,hs.norel,hs.plain,hs.said,hs.cells,hs.mX,hs.mu,hs.mi,hs.Qh,hs.bO,hs.nH,hs.Nm,hs.gu⟩,hp⟩,hm,hd,cJ⟩
theorem bB.le0(h:bB E Fin L0 K gs w t D pend cl o m os main d0)(hl:s.le (K 0)):bB E Fin L0 (dL K 0 s) gs w t D pend cl o m os main d0:=by
 obtain⟨⟨L,l,hb,hs,hp⟩,hm,hd,cJ⟩:=h
 have hle:∀j,(dL K 0 s j).le (K j):=fun j=>by
  by_cases e:j=0
  ·subst e;rw[au];exact hl
  rw[aA _ _ e];exact St.le_refl _
 refine⟨⟨L,l,⟨hb.fit.le hle,hb.size,fun k r hk=>by rw[aA _ _ (by omega)];exact hb.ok k r hk,fun k hk b h=>hb.RN k hk b ((hle k).knows h),hb.ops,hb.same⟩,
  ⟨fun j hj=>hs.kW j ((hle j).knows hj),fun j hj=>hs.kM j ((hle j).knows hj),hs.lW,hs.lM,hs.lH,hs.ne,hs.norel,hs.plain,hs.said,hs.cells,hs.mX,hs.mu,hs.mi,hs.Qh,hs.bO,fun j hj=>hs.nH j ((hle j).owns hj),fun j x hx=>?_,?_⟩,hp⟩,hm,hd,cJ⟩
 ·rcases(hle j).aR (by rw[hx];simp) with h6|h6
  ·exact hs.Nm j x (by rw[←h6];exact hx)
  exact absurd h6 (hs.nH j)
 rcases hs.gu with h1| ⟨h1,v,X,h2,h3,h4,h5⟩
 ·exact .inl h1
 exact .inr ⟨h1,v,X,h2,h3,fun b o hb=>⟨(h4 b o hb).1,(h4 b o hb).2.1,(h4 b o hb).2.2.1,fun j hj=>(h4 b o hb).2.2.2 j ((hle j).knows hj)⟩,h5⟩
theorem bB.awake(h:bB E Fin L0 K gs w t D pend cl o m os main d0):∀x∈gs,Go.Conc.awake x:=by
 obtain⟨⟨L,l,hb,hs,hp⟩,hm,hd,cJ⟩:=h
 intro x hx
 obtain⟨j,hj,rfl⟩:=Array.mem_iff_getElem.1 hx
 have XB:gs[j]?=some gs[j]:=Array.getElem?_eq_getElem hj
 intro k
 cases j with
 |zero=>
  rw[hm] at XB
  rw[←Option.some.inj XB]
  match cl,cJ with
  |none,h=>rw[show main.status= .running from h];simp
  |some (c,n),⟨h,_⟩=>
   by_cases e:c= .blk
   ·subst e
    obtain⟨_,fZ,_,rfl⟩:=h
    simp
   rw[h.running e];simp
 |succ j=>
  have bO:j <D.length:=by have:=hb.size;omega
  obtain⟨y,hy,bF⟩:=hb.ok j _ (List.getElem?_eq_getElem bO)
  rw[XB] at hy
  rw[Option.some.inj hy]
  rcases bF.running with (e|e)| ⟨_,_,_,_,_,fZ,_,_,_,e⟩
  ·rw[e];simp
  ·rw[e];simp
  rw[e];simp
theorem bB.alive(h:bB E Fin L0 K gs w t D 0 cl o m os main d0):∃(i:Nat) (x:Goroutine),gs[i]?=some x∧x.status= .running:=by
 obtain⟨⟨L,l,hb,hs,hp⟩,hm,hd,cJ⟩:=h
 have wk:∀(k:Nat) (r:ai ι),D[k]?=some r→(r.cnt=1∨r.c4=1∨r.c3=1∨r.c2=1)→r.lT.zm=false∨m=1→∃(i:Nat) (x:Goroutine),gs[i]?=some x∧x.status= .running:=fun k r hk hc hS=>by
  obtain⟨y,hy,bF⟩:=hb.ok k r hk
  rcases bF.running with (e|e)| ⟨x,it,ls,rfl,hx,fZ,_,_,_,e⟩
  ·exact⟨_,y,hy,e⟩
  ·exfalso
   cases r with
   |leave q d c=>simp[ai.cnt,ai.c4,ai.c3,ai.c2] at hc
   |work ls tr=>have:=lF.running (fun _ _ x=>de.Stp.running x) bF.2;rw[e] at this;cases this
   |lk x n it ls=>
    obtain⟨_,_,_,c,cs,_,h1| ⟨_,_,fZ,_,h4⟩⟩:=bF
    ·have:=de.pu.running h1;rw[e] at this;cases this
    rw[h4] at e;cases e
   |qE it ls l1 tr=>have:=nY.running (fun _ _ x=>de.So.running x) bF.2.2.2;rw[e] at this;cases this
   |post ls tr=>obtain⟨_,_,h⟩:=bF;have:=nY.running (fun _ _ x=>de.So.running x) h;rw[e] at this;cases this
   |ul x n ls=>
    obtain⟨_,_,_,c,cs,h1,_⟩:=bF
    have:=de.pu.running h1;rw[e] at this;cases this
   |st k n=>have:=Pure.running (WK.running k) bF.2.2.1;rw[e] at this;cases this
  rcases hS with h1|h1
  ·simp only[ai.lT] at h1;rw[hx] at h1;cases h1
  exact absurd (by rw[e]) (hs.Qh h1 k y hy)
 match cl,cJ with
 |none,h=>exact⟨0,main,hm,h⟩
 |some (c,n),⟨h,_⟩=>
  by_cases e:c= .blk
  ·subst e
   obtain⟨st,sm,_,fE⟩:=hs.cells
   have Wo:∀(f:ai ι→Nat),(∀r,f r≤1)→1≤cG f D→∃(k:Nat) (r:ai ι),D[k]?=some r∧f r=1:=fun f hf h1=>by
    refine Classical.byContradiction fun hn=>?_
    have:cG f D=0:=qO f fun r hr=>by
     obtain⟨k,hk⟩:=List.getElem?_of_mem hr
     have h2:=hf r
     rcases Nat.lt_or_ge 0 (f r) with h3|h3
     ·exact absurd ⟨k,r,hk,by omega⟩ hn
     omega
    omega
   have nS4:∀r:ai ι,(r.c4=1∨r.c3=1∨r.c2=1)→r.lT.zm=false:=fun r hr=>by
    cases r<;>first|rfl| (simp[ai.c4,ai.c3,ai.c2] at hr)
   simp only[Option.map_some,Nat.add_zero] at fE
   generalize hc:some CK.blk=oc at fE
   generalize hn:cG ai.cnt D=N at fE
   generalize h4:cG ai.c4 D=N4 at fE
   generalize h3:cG ai.c3 D=N3 at fE
   generalize h2:cG ai.c2 D=N2 at fE
   cases fE with
   |start=>cases hc
   |kd=>cases hc
   |w1 _=>cases hc
   |w2 _ _ _=>cases hc
   |reg _ h1=>
    obtain⟨k,r,hk,hr⟩:=Wo ai.cnt (fun r=>by cases r<;>first|exact Nat.le_refl _|exact Nat.zero_le _| (rename_i k n;cases k<;>first|exact Nat.le_refl _|exact Nat.zero_le _)) (by omega)
    cases hrS:r.lT.zm with
    |false=>exact wk k r hk (.inl hr) (.inl hrS)
    |true=>
     by_cases mh:m=1
     ·exact wk k r hk (.inl hr) (.inr mh)
     have hz:m=0:=by have:=(hs.few hb).2;omega
     have OI:=hs.mi
     rw[hz] at OI
     obtain⟨k1,sv,e1⟩:∃k sv,r.lT= .s1 k sv:=by
      cases hl:r.lT<;>rw[hl] at hrS<;>first| (cases hrS;done)|exact⟨_,_,rfl⟩
     obtain⟨y,hy,agh⟩:=OI.live (k:=k1) (sv:=sv) (List.mem_map.2 ⟨r,List.mem_of_getElem? hk,e1⟩)
     obtain⟨r2,vF,rfl⟩:=List.mem_map.1 hy
     obtain⟨k2,fe⟩:=List.getElem?_of_mem vF
     refine wk k2 r2 fe ?_ (.inl ?_)
     ·cases r2<;>first|exact .inl rfl|exact agh.elim
     cases hl:r2.lT<;>rw[hl] at agh<;>first|rfl|exact agh.elim
   |l4 _=>
    obtain⟨k,r,hk,hr⟩:=Wo ai.c4 (fun r=>by cases r<;>first|exact Nat.zero_le _| (rename_i k n;cases k<;>first|exact Nat.le_refl _|exact Nat.zero_le _)) (by omega)
    exact wk k r hk (.inr (.inl hr)) (.inl (nS4 r (.inl hr)))
   |l3 _=>
    obtain⟨k,r,hk,hr⟩:=Wo ai.c3 (fun r=>by cases r<;>first|exact Nat.zero_le _| (rename_i k n;cases k<;>first|exact Nat.le_refl _|exact Nat.zero_le _)) (by omega)
    exact wk k r hk (.inr (.inr (.inl hr))) (.inl (nS4 r (.inr (.inl hr))))
   |l2 _=>
    obtain⟨k,r,hk,hr⟩:=Wo ai.c2 (fun r=>by cases r<;>first|exact Nat.zero_le _| (rename_i k n;cases k<;>first|exact Nat.le_refl _|exact Nat.zero_le _)) (by omega)
    exact wk k r hk (.inr (.inr (.inr hr))) (.inl (nS4 r (.inr (.inr hr))))
   |sema _ h1=>cases hc;exact absurd rfl h1
   |over h1=>cases hc;exact h1.elim
  exact⟨0,main,hm,h.running e⟩
end
section
variable {ι:Type} {E:de ι} {Fin:Goroutine→Prop}
variable {L0 L L':Nat→Option Obj} {K:Nat→St} {gs:Array Goroutine} {w w':World} {t u:Trace} {D:List (ai ι)} {pend dC nw d0:Nat} {cl cl':rQ} {o:Wd} {m:Nat} {l os:List ι} {main:Goroutine} {sl:Option (Nat×Nat)}
 {i:Nat} {r r':ai ι} {g g':Goroutine} {s s':St} {es:Array Event}
theorem Guard.aer(h:Guard E L0 L K n w t D l)(hk:∀b,L b≠none→¬(K 0).knows b→¬s'.knows b)(hH:w'.heap[E.Hb]?=w.heap[E.Hb]?)
 (hnt:∀op∈u,∀x,op.act.touch?=some x→¬ko E.Hb x.loc∧∀b,blk x.loc=some b→L b≠none→(K 0).knows b):Guard E L0 L (dL K 0 s') n w' (t++u) D l:=by
 rcases h with h| ⟨tL,v,X,h1,h2,h3,h4,h5,h6⟩
 ·exact .inl h
 refine .inr ⟨tL,v,X,h1,h2,fun b o hb=>⟨(h3 b o hb).1,(h3 b o hb).2.1,(h3 b o hb).2.2.1,fun j=>?_⟩,h4,by rw[hH];exact h5,fun p x hx hg=>?_⟩
 ·by_cases e:j=0
  ·subst e;rw[au];exact hk b (by rw[(h3 b o hb).1];simp) ((h3 b o hb).2.2.2 _)
  rw[aA _ _ e];exact(h3 b o hb).2.2.2 j
 have iM:touchAt t p=some x:=by
  rcases aI hx with ⟨_,h'⟩| ⟨_,op,hm,_,oK⟩
  ·exact h'
  obtain⟨k1,k2⟩:=hnt op hm x oK
  rcases hg with ⟨b,o,hb,OG⟩|hh
  ·exact absurd (k2 b OG (by rw[(h3 b o hb).1];simp)) ((h3 b o hb).2.2.2 _)
  exact absurd hh k1
 rcases h6 p x iM hg with h7|h7| ⟨j,y,hj,hy,bR⟩
 ·exact .inl ⟨h7.1.app u,fun k y hk hy=>(h7.2 k y hk hy).app u⟩
 ·exact .inr (.inl (h7.app u))
 exact .inr (.inr ⟨j,y,hj,hy,bR.app u⟩)
theorem bB.go0(hb:jM E L K gs w t D)(hs:s9 E L0 L K gs w t D pend cl o m l)(hp:E.LJ (l++fq D) os)(hm:gs[0]?=some g) (hd:Deaf t 0=d0)
 (hgo:stepG E.P true g w= .go g' w' es) (Xq:MemOp.ofEvents 0 g.frame.fn g.frame.place es=u) (AD:iC w w') (cR:¬s'.knows E.Wg) (ql:¬s'.knows E.Mu) (hs3:¬s'.owns E.Hb) (hsh:∀x,s'.ro E.Hb=some x→x=E.hole)
 (jP:Fit L (dL K 0 s') w' (t++u)) (hM:w'.heap[E.Mu]?=w.heap[E.Mu]?) (hH:w'.heap[E.Hb]?=w.heap[E.Hb]?)
 (jE:∀op∈u,∀x,op.act.touch?=some x→E.At x→x.kind≠ .plain) (fp:∀op∈u,∀a,op.act≠ .mark (.release a))
 (hnt:∀op∈u,∀x,op.act.touch?=some x→¬ko E.Hb x.loc∧∀b,blk x.loc=some b→L b≠none→(K 0).knows b) (bR:∀b,L b≠none→¬(K 0).knows b→¬s'.knows b)
 (fB:∃st sm,WgAt E.ty E.Wg w' st sm∧Md E.max (cG ai.cnt D+dC) (cG ai.c4 D) (cG ai.c3 D) (cG ai.c2 D) (cl'.map (·.1)) st sm) (qn:cG ai.cnt D+dC≤E.max) (cJ:mL E Fin g' (deafBehind d0 es) cl'):
 ∃e8,runT E.P (crowd gs w sl) 0=(.next (crowd e8 w' sl),u)∧bB E Fin L0 (dL K 0 s') e8 w' (t++u) D dC cl' o m os g' (deafBehind d0 es):=by
 have wX:∀op∈u,op.g=0:=by rw[←Xq];exact fun op av=>Go.ConcR.g_of_ofEvents op av
 have bx:=runT_crowd_go (P:=E.P) (sl:=sl) (i:=0) hm (by simpa using hgo)
 have hdo:Deaf (t++u) 0=deafBehind d0 es:=by rw[←Xq,Deaf_own,hd]
 rw[Xq] at bx
 have cF:∀k,∀op∈u,op.g≠k+1:=fun k op av=>by rw[wX op av];omega
 have zr:∀b,¬s'.knows b→(∀j,¬(K j).knows b)→∀j,¬(dL K 0 s' j).knows b:=fun b h1 h2 j=>by
  by_cases e:j=0
  ·subst e;rw[au];exact h1
  rw[aA _ _ e];exact h2 j
 have afZ:((gs.map (woken E.P g g' w')).setIfInBounds 0 g').size=gs.size:=by simp
 refine⟨_,bx,⟨⟨L,l,⟨jP,by simp[hb.size],fun k r hk=>?_,fun k hk b h=>?_,fun op av=>?_,⟨hb.same.1.trans AD.1,AD.2.trans hb.same.2⟩⟩,
  ⟨zr _ cR hs.kW,zr _ ql hs.kM,hs.lW,hs.lM,hs.lH,hs.ne,fun a=>(hs.norel a).app fun op av=>fp op av a,fun j hj p x hx ju hk=>?_,fun p x hx ju hk=>?_,fB,qn,by unfold MuAt;rw[hM];exact hs.mu,hs.mi,fun mh k x hx=>?_,?_,fun j=>?_,fun j x hx=>?_,by rw[afZ];exact hs.gu.aer bR hH hnt⟩,hp⟩,?_,hdo,cJ⟩⟩
 ·obtain⟨x,hx,bF⟩:=hb.ok k r hk
  rw[aA _ _ (by omega)]
  exact⟨_,dW (by omega) hx,(bF.other (cF k) fun _ op av x hx=>(hnt op av x hx).1).woken _ _ _⟩
 ·rw[Array.size_setIfInBounds,Array.size_map] at hk
  have:=hb.size
  rw[aA _ _ (by omega)] at h
  exact hb.RN k hk b h
 ·rw[Array.size_setIfInBounds,Array.size_map]
  rcases Array.mem_append.1 av with h'|h'
  ·exact hb.ops op h'
  rw[wX op h',hb.size];omega
 ·rcases aI hx with ⟨_,iM⟩| ⟨_,op,KO,_,oK⟩
  ·exact(hs.plain j hj p x iM ju hk).app u
  exact absurd hk (jE op KO x oK ju)
 ·rcases aI hx with ⟨_,iM⟩| ⟨mf,op,KO,av,oK⟩
  ·exact(hs.said p x iM ju hk).app u
  exact yz wX mf av
 ·have atV:k <D.length:=by have h3:=lt_size hx;have:=hb.size;simp at h3;omega
  obtain⟨y,hy,bF⟩:=hb.ok k _ (List.getElem?_eq_getElem atV)
  rw[dW (by omega) hy] at hx
  cases hx
  have h3:=hs.Qh mh k y hy
  have:Go.Conc.woken E.P g g' w' y=y:=by
   unfold Go.Conc.woken
   split
   ·rcases bF.running with h4| ⟨_,_,_,_,_,fZ,_,_,_,h5⟩
    ·exact again_running _ h4
    rw[h5] at h3;exact absurd rfl h3
   rfl
  rw[this];exact h3
 ·have hl:=hs.bO
  have h1:w.heap[E.Hb]?=some (w.heap[E.Hb]'hl):=Array.getElem?_eq_getElem hl
  rw[←hH] at h1
  exact lt_size h1
 ·by_cases e:j=0
  ·subst e;rw[au];exact hs3
  rw[aA _ _ e];exact hs.nH j
 ·by_cases e:j=0
  ·subst e;rw[au] at hx;exact .inl (hsh x hx)
  rw[aA _ _ e] at hx;exact hs.Nm j x hx
 have:=hb.size
 rw[Array.getElem?_setIfInBounds_self_of_lt (by simp;omega)]
theorem s9.QX(hs:s9 E L0 L K gs w t D pend cl o m l):∀x,(K 0).ro E.Hb=some x→x=E.hole:=fun x hx=>by
 rcases hs.Nm _ x hx with h1| ⟨k,y,e,_⟩
 ·exact h1
 omega
theorem s9.avv(hs:s9 E L0 L K gs w t D pend cl o m l)(hw:w'.heap[E.Wg]?=w.heap[E.Wg]?):∃st sm,WgAt E.ty E.Wg w' st sm∧Md E.max (cG ai.cnt D+pend) (cG ai.c4 D) (cG ai.c3 D) (cG ai.c2 D) (cl.map (·.1)) st sm:=by
 obtain⟨st,sm,ha,h⟩:=hs.cells
 exact⟨st,sm,by unfold WgAt;rw[hw];exact ha,h⟩
theorem bB.aci(hb:jM E L K gs w t D)(hs:s9 E L0 L K gs w t D pend cl o m l)(hp:E.LJ (l++fq D) os)(hm:gs[0]?=some g) (hd:Deaf t 0=d0)
 (hgo:stepG E.P true g w= .go g' w' es) (hw:bQ E.jK w w') (jb:∀e∈es,oV E.Wg e)
 (fB:∃st sm,WgAt E.ty E.Wg w' st sm∧Md E.max (cG ai.cnt D+dC) (cG ai.c4 D) (cG ai.c3 D) (cG ai.c2 D) (cl'.map (·.1)) st sm) (qn:cG ai.cnt D+dC≤E.max) (cJ:mL E Fin g' (deafBehind d0 es) cl'):
 ∃e8 u,runT E.P (crowd gs w sl) 0=(.next (crowd e8 w' sl),u)∧bB E Fin L0 K e8 w' (t++u) D dC cl' o m os g' (deafBehind d0 es):=by
 have ho:=oV.ops jb 0 g.frame.fn g.frame.place
 have h1:=bB.go0 (sl:=sl) (Fin:=Fin) (s':=K 0) (cl':=cl') (dC:=dC) hb hs hp hm hd hgo rfl ⟨by rw[hw.same.1];exact OsLater.refl _,hw.same.2⟩ (hs.kW 0) (hs.kM 0) (hs.nH 0) hs.QX
  (by rw[fQ];exact hs.pU hb.fit (.inl rfl) (.inl rfl) hw.size hw.block jb _ _) (hw.block _ (Ne.symm hs.ne.1)) (hw.block _ hs.ne.2.1) (fun op av x hx _=>by rw[((ho op av).2.2 x hx).2];simp) (fun op av=>(ho op av).2.1)
  (fun op av x hx=>⟨fun⟨a,ea,e1,_⟩=>by
   have:=((ho op av).2.2 x hx).1
   rw[ea] at this;simp only[blk,Option.some.injEq] at this;exact hs.ne.2.1 (by omega),fun b ju hl=>by
   have:=((ho op av).2.2 x hx).1
   rw[ju] at this;cases this;exact absurd hs.lW hl⟩) (fun _ _ h=>h) fB qn cJ
 obtain⟨e8,h2,h3⟩:=h1
 rw[fQ] at h3
 exact⟨e8,_,h2,h3⟩
theorem bB.anR(hb:jM E L K gs w t D)(hs:s9 E L0 L K gs w t D pend cl o m l)(hp:E.LJ (l++fq D) os)(hm:gs[0]?=some g) (hd:Deaf t 0=d0) {k:Mark} {wr:Bool} (hk:(k= .read (smA E.Wg)∧wr=false)∨(k= .write (smA E.Wg)∧wr=true))
 (hgo:stepG E.P true g w= .go g' w #[said k])
 (fB:∃st sm,WgAt E.ty E.Wg w st sm∧Md E.max (cG ai.cnt D+dC) (cG ai.c4 D) (cG ai.c3 D) (cG ai.c2 D) (cl'.map (·.1)) st sm) (qn:cG ai.cnt D+dC≤E.max) (cJ:mL E Fin g' d0 cl'):
 ∃e8 u,runT E.P (crowd gs w sl) 0=(.next (crowd e8 w sl),u)∧bB E Fin L0 K e8 w (t++u) D dC cl' o m os g' d0:=by
 have e1:MemOp.ofEvents 0 g.frame.fn g.frame.place #[said k]= #[{g:=0,fn:=g.frame.fn,pos:=g.frame.place,act:= .mark k}]:=by rw[ofEvents_eq];simp[said,Go.ConcR.ofEvent_mk]
 have hu:∀op∈MemOp.ofEvents 0 g.frame.fn g.frame.place #[said k],op.g=0∧op.act= .mark k:=by rw[e1];intro op av;simp at av;subst av;exact⟨rfl,rfl⟩
 have UF:∀op∈MemOp.ofEvents 0 g.frame.fn g.frame.place #[said k],∀x,op.act.touch?=some x→x=⟨.cell (smA E.Wg),wr,.said⟩:=fun op av x hx=>by
  rw[(hu op av).2] at hx
  rcases hk with ⟨rfl,rfl⟩| ⟨rfl,rfl⟩<;>(simp only[MemAct.touch?,Option.some.injEq] at hx;exact hx.symm)
 obtain⟨st,sm,ha,_⟩:=hs.cells
 have hde:deafBehind d0 #[said k]=d0:=by rcases hk with ⟨rfl,_⟩| ⟨rfl,_⟩<;>rfl
 have h1:=bB.go0 (sl:=sl) (Fin:=Fin) (s':=K 0) (cl':=cl') (dC:=dC) hb hs hp hm hd hgo rfl (iC.refl w) (hs.kW 0) (hs.kM 0) (hs.nH 0) hs.QX
  (by
   rw[fQ]
   refine hb.fit.beside E.Wg 0 hs.kW hs.lW (lt_size ha) (Nat.le_refl _) (fun _ _ _=>rfl) (fun op av=>(hu op av).1) fun op av x hx=>?_
   obtain rfl:=UF op av x hx
   refine⟨rfl,fun sd p a qp hc=>?_⟩
   have hl:blk a.loc=some E.Wg:=by rw[hc.1];rfl
   rcases hc.2.2.2 with h3|h3|h3
   ·exact hs.plain 0 (.inl rfl) p a qp (.inl hl) h3
   ·cases h3
   exact hs.said p a qp hl h3.2.1) rfl rfl (fun op av x hx _=>by obtain rfl:=UF op av x hx;simp) (fun op av a=>by rw[(hu op av).2];rcases hk with ⟨rfl,_⟩| ⟨rfl,_⟩<;>simp)
  (fun op av x hx=>⟨fun⟨a,ea,e1,_⟩=>by
   obtain rfl:=UF op av x hx
   cases ea
   exact hs.ne.2.1 e1.symm,fun b ju hl=>by
   obtain rfl:=UF op av x hx
   cases ju;exact absurd hs.lW hl⟩) (fun _ _ h=>h) fB qn (by rw[hde];exact cJ)
 obtain⟨e8,h2,h3⟩:=h1
 rw[fQ,hde] at h3
 exact⟨e8,_,h2,h3⟩
def TG(E:de ι)(Fin:Goroutine→Prop)(L0:Nat→Option Obj)(Q:Machine→Outcome→World→Trace→Prop)(pend nw:Nat)(os:List ι)(d0:Nat)(g:Goroutine)(s:St):Prop:=
 ∀K gs w t D o m sl,bB E Fin L0 K gs w t D pend none o m os g d0→cG ai.cnt D≤nw→s.le (K 0)→Ends E.P Q (crowd gs w sl) t
variable {Q:Machine→Outcome→World→Trace→Prop}
theorem TG.mono(hl:s.le s')(h:TG E Fin L0 Q pend nw os d0 g s):TG E Fin L0 Q pend nw os d0 g s':=fun K gs w t D o m sl hI hn hle=>h K gs w t D o m sl hI hn (hl.trans hle)
theorem Bn(hs:g.status= .running)
 (h:∀K gs w t D o m sl mm,bB E Fin L0 K gs w t D pend none o m os g d0→cG ai.cnt D≤nw→K 0=s→stepT E.P mm=runT E.P (crowd gs w sl) 0→Ends E.P Q mm t):TG E Fin L0 Q pend nw os d0 g s:=by
 intro K gs w t D o m sl hI hn hle
 have key:∀μ:GM ι,μ.c=gr E.max none→∀K gs w t sl,μ.r=runN gs→bB E Fin L0 K gs w t μ.D pend none μ.o μ.m os g d0→cG ai.cnt μ.D≤nw→K 0=s→Ends E.P Q (crowd gs w sl) t:=by
  intro μ
  induction μ using wN.wf.induction with
  |_ μ ih=>
   obtain⟨D,o,m,c,rn⟩:=μ
   intro hc K gs w t sl hr hI hn hK
   simp only at hc hr hI hn
   subst hc hr
   obtain⟨i,bk,d,CF,aN,wF,bE⟩:=crowd_pick (P:=E.P) (gs:=gs) (w:=w) (sl:=sl) hI.awake ⟨0,g,hI.aCw,hs⟩
   have vJ:=hI.at d
   cases i with
   |zero=>exact h K gs _ t D o m CF _ vJ hn hK bE
   |succ i=>
    by_cases hq:∀r,D[i]?=some r→r.quiet=false
    ·obtain⟨K',e8,w',u,D',cl',o',m',main',hr,za,oy,hmn,fN,XH,bO⟩:=vJ.other (sl:=CF) aN wF hq
     have h1:=hmn hs
     subst h1
     have h2:=fN.1 rfl
     subst h2
     exact Ends.next (bE.trans hr) (ih ⟨D',o',m',gr E.max none,runN e8⟩ bO rfl K' e8 w' _ CF rfl za (Nat.le_trans XH hn) (oy.trans hK))
    obtain⟨r,hr⟩:=Classical.not_forall.1 hq
    obtain⟨zo,vF⟩:=Classical.not_imp.1 hr
    obtain⟨K',D',za,oy,XH,bO⟩:=hI.norm zo (by simpa using vF)
    exact ih ⟨D',o,m,gr E.max none,runN gs⟩ (bO _ _) rfl K' gs w t sl rfl za (Nat.le_trans XH hn) (oy.trans hK)
 exact key ⟨D,o,m,gr E.max none,runN gs⟩ rfl _ gs w t sl rfl (hI.le0 hle) hn (au _ _ _)
theorem ug:Closed E.P true (TG E Fin L0 Q pend nw os 0) where
 step:=fun g s hs h=>Bn hs fun K gs w t D o m sl mm hI hn hK Z8=>by
  subst hK
  obtain⟨⟨L,l,hb,kR,hp⟩,hm,hd,cJ⟩:=hI
  obtain⟨g',w',es,s',hgo,bx,ht,hT⟩:=h w (hb.fit.iX 0)
  have k:=kR.q9 hb.fit ht g.frame.fn g.frame.place
  have hde:=ht.deaf 0
  obtain⟨e8,h2,h3⟩:=bB.go0 (sl:=sl) (Fin:=Fin) (s':=s') (cl':=none) (dC:=pend) hb kR hp hm hd hgo rfl (iC.P8 ht) k.nW k.nM k.nH (fun x hx=>kR.QX x (k.ro x hx)) (hb.fit.own ht _ _) k.hM k.hH (fun op av x hx iM=>absurd iM (k.touch op av x hx)) k.rel
   (fun op av x hx=>⟨k.hole kR.QX op av x hx,k.tk op av x hx⟩) k.kn (kR.avv k.hW) kR.mX bx
  rw[hde] at h3
  exact Ends.next (Z8.trans h2) (hT _ e8 w' _ D o m sl h3 hn (by rw[au];exact St.le_refl _))
 mono:=fun g s s' hl h=>h.mono hl
theorem Md.count{a c:Nat}(h:Md mx n a b c none st sm):st=(n:Int)*KK∧sm=0:=by
 generalize ho:(none:Option CK)=o at h
 cases h with
 |start=>exact⟨rfl,rfl⟩
 |_=>cases ho
theorem s9.aoa(hs:s9 E L0 L K gs w t D pend none o m l):cG ai.c4 D=0∧cG ai.c3 D=0∧cG ai.c2 D=0:=by
 obtain⟨st,sm,_,h⟩:=hs.cells
 simp only[Option.map_none] at h
 generalize ho:(none:Option CK)=oo at h
 generalize cG ai.cnt D+pend=n at h
 generalize cG ai.c4 D=a at h ⊢
 generalize cG ai.c3 D=b at h ⊢
 generalize cG ai.c2 D=c at h ⊢
 cases h with
 |start=>exact⟨rfl,rfl,rfl⟩
 |_=>cases ho
theorem Mo{dC d':Nat}(hs:g.status= .running)(qm:nw+dC≤E.max)
 (h:∀v,v≤nw→∃g' es,(∀w,WgAt E.ty E.Wg w (((v+pend:Nat):Int)*KK) 0→∃w',stepG E.P true g w= .go g' w' es∧bQ E.jK w w'∧WgAt E.ty E.Wg w' (((v+dC:Nat):Int)*KK) 0)∧(∀e∈es,oV E.Wg e)∧deafBehind d0 es=d'∧g'.status= .running∧
  TG E Fin L0 Q dC nw os d' g' s):TG E Fin L0 Q pend nw os d0 g s:=by
 refine Bn hs fun K gs w t D o m sl mm hI hn hK Z8=>?_
 subst hK
 obtain⟨⟨L,l,hb,kR,hp⟩,hm,hd,cJ⟩:=hI
 obtain⟨st,sm,ha,fE⟩:=kR.cells
 obtain⟨rfl,rfl⟩:=Md.count fE
 obtain⟨g',es,h1,h2,h3,h4,h5⟩:=h _ hn
 obtain⟨w',hgo,QO,qp⟩:=h1 w ha
 obtain⟨e4,e3,e2⟩:=kR.aoa
 obtain⟨e8,u,k1,k2⟩:=bB.aci (sl:=sl) (Fin:=Fin) (cl':=none) (dC:=dC) hb kR hp hm hd hgo QO h2 ⟨_,_,qp,by rw[e4,e3,e2];exact .start⟩ (by omega) h4
 rw[h3] at k2
 exact Ends.next (Z8.trans k1) (h5 _ e8 w' _ D o m sl k2 hn (St.le_refl _))
theorem Wb(hs:g.status= .running)(kR:g'.status= .running)(bE:∀w,E.jK.live w→stepG E.P true g w= .go g' w #[])(hT:TG E Fin L0 Q pend nw os d0 g' s):TG E Fin L0 Q pend nw os d0 g s:=by
 refine Bn hs fun K gs w t D o m sl mm hI hn hK Z8=>?_
 subst hK
 obtain⟨⟨L,l,hb,UG,hp⟩,hm,hd,cJ⟩:=hI
 obtain⟨st,sm,ha,fE⟩:=UG.cells
 obtain⟨e8,u,k1,k2⟩:=bB.aci (sl:=sl) (Fin:=Fin) (cl':=none) (dC:=pend) hb UG hp hm hd (bE w ⟨st,sm,ha⟩) (bQ.refl w) (by simp) ⟨_,_,ha,fE⟩ UG.mX kR
 exact Ends.next (Z8.trans k1) (hT _ e8 w _ D o m sl k2 hn (St.le_refl _))
theorem ajp(hs:g.status= .running)(kR:g'.status= .running)(bE:∀w,E.jK.live w→stepG E.P true g w= .go g' w #[said (.read (smA E.Wg))])(hT:TG E Fin L0 Q pend nw os d0 g' s):TG E Fin L0 Q pend nw os d0 g s:=by
 refine Bn hs fun K gs w t D o m sl mm hI hn hK Z8=>?_
 subst hK
 obtain⟨⟨L,l,hb,UG,hp⟩,hm,hd,cJ⟩:=hI
 obtain⟨st,sm,ha,fE⟩:=UG.cells
 obtain⟨e8,u,k1,k2⟩:=bB.anR (sl:=sl) (Fin:=Fin) (cl':=none) (dC:=pend) (wr:=false) hb UG hp hm hd (.inl ⟨rfl,rfl⟩) (bE w ⟨st,sm,ha⟩) ⟨_,_,ha,fE⟩ UG.mX kR
 exact Ends.next (Z8.trans k1) (hT _ e8 w _ D o m sl k2 hn (St.le_refl _))
end
end Go.L
