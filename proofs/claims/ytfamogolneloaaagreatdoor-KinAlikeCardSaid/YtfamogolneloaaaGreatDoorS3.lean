/- Part 3 of the proof. -/
import Derived.Test.YtfamogolneloaaaGreatDoorS2
import Derived.Conc.CrowdStepC
import Derived.Conc.Own2
import Derived.Conc.TokenWalk
set_option maxRecDepth 100000
set_option linter.all false
namespace Go.L
open Go Go.Conc
open Go.ConcR (KK wgBlock WgAt stA smA rd wr)
variable {P:Program} {s cs iI:List Frame} {f fr oe:Frame} {Q:Machine→Outcome→World→Trace→Prop} {ty:TypeId} {main:Bool} {α:Type} {rest l:List Code} {W mr id i p n off pc sz:Nat} {T:Goroutine→St→Prop} {vs ws:List Value} {x:Operand} {xs:Array Operand} {g:Goroutine} {ca args fi:Array Value} {todo:List Nat} {b:ByteArray} {z:Value} {ats at_:Array TypeId} {s':St} {o:Obj} {st sm:Int}
section
variable {ι:Type} {E:ep ι} {L:Nat→Option Obj} {K:Nat→St} {gs:Array Goroutine} {w:World} {t:Trace} {D:List (au ι)} {d0:Nat} {main:Goroutine} {sl:Option (Nat×Nat)}
 {ic n:Nat} {g:Goroutine}
def ID(E:ep ι)(pc:Nat)(K:Nat→St)(w:World)(t:Trace):Prop:=
 (∃sn tm,w.heap[E.Ch]?=some (.chan 0 #[] true sn sn tm))∧¬(K 0).knows E.Ch∧t.act? pc=some (.close E.Ch)∧t.heard pc∧(∀a,NoRelease a t)∧w.os=E.os∧w.output=E.out
theorem HJ(E:ep ι)(pc:Nat):Za (ID E pc) where
 grow:=fun K w t u h hu=>⟨h.1,h.2.1,by rw[act?_old (lt_of_act? h.2.2.1)];exact h.2.2.1,(heard_old (lt_of_act? h.2.2.1)).2 h.2.2.2.1,fun a=>(h.2.2.2.2.1 a).app fun op aA=>hu op aA a,h.2.2.2.2.2⟩
 drawn:=fun K w t d h=>h
 le:=fun K w t s h hl=>⟨h.1,by rw[aD];exact fun hk=>h.2.1 (hl.knows hk),h.2.2⟩
 own:=fun K w t s' w' es u h ht hu=>by
  obtain⟨⟨sn,tm,hc⟩,hk,ha,hh,hn,QO⟩:=h
  have cN:=lt_size hc
  refine⟨⟨sn,tm,by rw[ht.frame _ cN fun ho=>hk (.inr ho)];exact hc⟩,?_,by rw[act?_old (lt_of_act? ha)];exact ha,(heard_old (lt_of_act? ha)).2 hh,fun a=>(hn a).app fun op aA=>hu op aA a,ht.os.trans QO.1,ht.output.trans QO.2⟩
  rw[aD]
  rintro(h'|h')
  ·rcases ht.Mz _ h' with h1|h1|h1
   ·omega
   ·exact hk (.inl h1)
   exact hk (.inr h1)
  rcases ht.own _ h' with h1|h1
  ·omega
  exact hk (.inr h1)
theorem ZF{r:au ι}(h1:r.cnt=0)(h4:r.c4=0)(h3:r.c3=0)(h2:r.c2=0)(hc:r≠ .closer):∃q d c,r= .leave q d c:=by
 cases r with
 |leave q d c=>exact⟨q,d,c,rfl⟩
 |closer=>exact absurd rfl hc
 |st k n=>cases k<;>simp[au.cnt,au.c4,au.c3,au.c2] at h1 h4 h3 h2
 |_=>exact absurd h1 (by simp[au.cnt])
theorem AcqAll.known(hA:AcqAll E t D ic)(hn:NoRelease (stA E.Wg) t){u:Trace}(hpc:t.size≤pc){y:MemOp}(hy:(t++u)[pc]?=some y) (hyg:y.g=ic+1) {r:au ι} (hi:D[i]?=some r) (hc:r.cur=true)
 (hp:t.g? p=some (i+1)) (hct:t.counts p):HappensBefore (t++u) p pc:=by
 obtain⟨q,h1,h2,h3,h4⟩:=hA
 obtain⟨x,hx,hxq⟩:=h4 i r hi hc
 have hq:=lt_of_act? h1
 have hqg:=h2
 obtain⟨oq,hoq,hgq⟩:=Option.map_eq_some_iff.1 h2
 have abc:HappensBefore t x q:= .single (.inr ⟨.marked hxq (.inr hx.act) h1 (fun k _ _=>hn k),hx.heard,h3⟩)
 have last:HappensBefore (t++u) q pc:=hb_po (by omega) (by rw[getElem?_append_old hq];exact hoq) hy (hgq.trans hyg.symm)
 have hle:p≤x:=Nat.le_of_not_lt fun cN=>hx.after p cN hp hct
 rcases Nat.lt_or_ge p x with cN|Q9
 ·exact((hb_app u (.trans (.single (.inl ⟨cN,_,hp,hx.g⟩)) abc)).trans last)
 obtain rfl:p=x:=by omega
 exact(hb_app u abc).trans last
def ae1(qc:Nat):au ι→Nat
 | .leave q _ _=>q
 |_=>qc
theorem Inv.close(h:Inv E L K gs w t D 0 (some (ic,.run .leaf,n)) main d0){main':Goroutine}(hm:∀(a a':Goroutine) (w':World),mayWake E.P a=true→(a'.status= .running∨a'.status= .finished)→(∃sn tm,w'.heap[E.Ch]?=some (.chan 0 #[] true sn sn tm))→woken E.P a a' w' main=main')
 (hg:gs[ic+1]?=some g):
 ∃lv w' u q,runT E.P (crowd gs w sl) (ic+1)=(.next (crowd lv w' sl),u)∧Lv E.P (jD (t.size+1)) L (fun j=>if j=0 then K 0 else ⟨fun _=>none,[]⟩) lv w' (t++u) q∧lv[0]?=some main'∧Deaf (t++u) 0=d0∧
  ID E (t.size+1) (fun j=>if j=0 then K 0 else ⟨fun _=>none,[]⟩) w' (t++u)∧kT D=[]:=by
 obtain⟨hic,G8,zn,⟨gc,FA,ql⟩,U0⟩:=h.sy.E8
 obtain rfl:gc=g:=by rw[hg] at FA;exact(Option.some.inj FA).symm
 obtain⟨st,sm,ha,nB⟩:=h.sy.cells
 obtain⟨e1,e4,e3,e2,rfl,rfl⟩:=nB.run rfl trivial
 obtain⟨_,hs,hmw,g',bW,q,hq⟩:=ql
 obtain⟨sn,rc,tm,hc⟩:=h.sy.chan
 have awe:=h.sy.bal _ _ _ hc
 subst awe
 have hA:=U0 ⟨_,rfl⟩
 have cN:=(List.getElem?_eq_some_iff.1 hic).1
 have UB:∀k r,D[k]?=some r→k≠ic→∃q d c,r= .leave q d c:=fun k r hk eg=>by
  refine ZF ?_ ?_ ?_ ?_ fun e=>eg (G8 k (e▸hk))
  ·have:=uv au.cnt hk;omega
  ·have:=uv au.c4 hk;omega
  ·have:=uv au.c3 hk;omega
  have:=uv au.c2 hk;omega
 have gP:=bW w sn sn tm hc
 have bX:=runT_crowd_go (P:=E.P) (sl:=sl) (i:=ic+1) hg (by simpa using gP)
 have q1:MemOp.ofEvents (ic+1) gc.frame.fn gc.frame.place #[⟨.obj E.Ch,false,true⟩,⟨.obj E.Ch,true,true⟩]= #[{g:=ic+1,fn:=gc.frame.fn,pos:=gc.frame.place,act:= .access ⟨.obj E.Ch,false,true⟩},{g:=ic+1,fn:=gc.frame.fn,pos:=gc.frame.place,act:= .close E.Ch}]:=by rw[ofEvents_eq];simp[MemAct.ofEvent]
 rw[q1] at bX
 generalize hu:(#[{g:=ic+1,fn:=gc.frame.fn,pos:=gc.frame.place,act:= .access ⟨.obj E.Ch,false,true⟩},{g:=ic+1,fn:=gc.frame.fn,pos:=gc.frame.place,act:= .close E.Ch}]:Trace)=u at bX
 have Lc:∀op∈u,op.g=ic+1∧(op.act= .access ⟨.obj E.Ch,false,true⟩∨op.act= .close E.Ch):=by rw[←hu];intro op aA;simp at aA;rcases aA with rfl|rfl<;>simp
 have XX:∀op∈u,∀x,op.act.touch?=some x→x=⟨.obj E.Ch,false,.atomic⟩:=fun op aA x hx=>by
  rcases(Lc op aA).2 with e|e<;>rw[e] at hx
  ·simp only[MemAct.touch?,if_true,Option.some.injEq] at hx;exact hx.symm
  cases hx
 have Q1:∀op∈u,∀m,op.act≠ .mark m:=fun op aA m=>by rcases(Lc op aA).2 with e|e<;>rw[e]<;>simp
 have aHr:E.Ch <w.heap.size:=lt_size hc
 have tB:(w.heap.setIfInBounds E.Ch (.chan 0 #[] true sn sn tm))[E.Ch]?=some (.chan 0 #[] true sn sn tm):=by simp[aHr]
 have hpc:(t++u)[t.size+1]?=some {g:=ic+1,fn:=gc.frame.fn,pos:=gc.frame.place,act:= .close E.Ch}:=by rw[←hu];simp
 have hle:∀j,((fun j=>if j=0 then K 0 else ⟨fun _=>none,[]⟩) j:St).le (K j):=fun j=>by
  by_cases e:j=0
  ·subst e;exact St.le_refl _
  simp only[if_neg e];exact⟨(K j).rw,by simp,fun b o hb=>(by cases hb)⟩
 have aS5:∀x:Goroutine,(x.status= .running∨x.status= .finished)→woken E.P gc g' {w with heap:=w.heap.setIfInBounds E.Ch (.chan 0 #[] true sn sn tm)} x=x:=fun x hx=>by
  unfold Go.Conc.woken
  split
  ·exact again_running _ hx
  rfl
 have kY:∀i r,D[i]?=some r→i≠ic→jD (t.size+1) (t++u) (i+1):=fun i r hi eg=>by
  obtain⟨x,hx,fF⟩:=h.base.ok i r hi
  obtain⟨qq,d,c,rfl⟩:=UB i r hi eg
  refine⟨by rw[←hu];simp,?_⟩
  cases c with
  |false=>exact .inl ((fF.2.2.2.2 rfl).other fun op aA=>by rw[(Lc op aA).1];omega)
  |true=>
   refine .inr fun p hp hct=>?_
   obtain⟨op,ho,hgo⟩:=Option.map_eq_some_iff.1 hp
   rcases getElem?_append_cases ho with ⟨UD,_⟩| ⟨_,jz⟩
   ·exact hA.known (h.sy.norel _) (Nat.le_succ _) hpc rfl hi rfl (by rw[←g?_old (u:=u) UD];exact hp) ((counts_old UD).1 hct)
   rw[(Lc op jz).1] at hgo;omega
 refine⟨_,_,u,D.map (ae1 q),bX,⟨?_,by simp[h.base.size],fun k x hk=>?_,fun i b hi hk=>?_,fun op aA=>?_⟩,?_,?_,⟨⟨sn,tm,tB⟩,h.sy.kC 0,?_,?_,fun a=>(h.sy.norel a).app fun op aA=>Q1 op aA _,h.base.same.1,h.base.same.2⟩,?_⟩
 ·refine(h.base.fit.beside E.Ch (ic+1) h.sy.kC h.sy.lC aHr (by simp) (fun b hb _=>by simp[Ne.symm hb]) (fun op aA=>(Lc op aA).1) fun op aA x hx=>?_).le hle
  obtain rfl:=XX op aA x hx
  refine⟨rfl,fun sd p a u2 hc=>h.sy.plain _ (.inr ⟨ic,_,rfl,hic,rfl⟩) p a u2 (.inr (by rw[hc.1];rfl)) ?_⟩
  rcases hc.2.2.2 with h3|h3|h3
  ·exact h3
  ·cases h3
  cases h3.2.2
 ·rw[List.getElem?_map] at hk
  obtain⟨r,hr,rfl⟩:=Option.map_eq_some_iff.1 hk
  by_cases eg:k=ic
  ·subst eg
   rw[hic] at hr
   cases hr
   refine⟨g',0,by simp[h.base.size,cN],hq,by rw[gz _ _ _ Q1];exact zn,by rw[←hu];simp,.inr fun p hp hct=>?_⟩
   obtain⟨op,ho,hgo⟩:=Option.map_eq_some_iff.1 hp
   rcases Nat.lt_or_ge p (t.size+1) with UD|Q9
   ·exact hb_po UD ho hpc hgo
   have hpe:p=t.size+1:=by
    have:=lt_size ho
    rw[←hu] at this
    simp at this
    omega
   subst hpe
   obtain⟨y,hy,_⟩:=hct
   obtain⟨o',Fx,ma⟩:=touch_of hy
   rw[hpc] at Fx;cases Fx
   cases ma
  obtain⟨x,hx,fF⟩:=h.base.ok k r hr
  have bY:=kY k r hr eg
  obtain⟨qq,d,c,rfl⟩:=UB k r hr eg
  exact⟨x,d,by rw[gB (by omega) hx,aS5 x fF.2.1.status],fF.2.1,by rw[gz _ _ _ Q1];exact fF.2.2.1,bY⟩
 ·simp only[if_neg hi] at hk
  rcases hk with hk| ⟨o,ho⟩
  ·exact hk rfl
  cases ho
 ·rw[Array.size_setIfInBounds,Array.size_map]
  rcases Array.mem_append.1 aA with h'|h'
  ·exact h.base.ops op h'
  rw[(Lc op h').1,h.base.size];omega
 ·rw[gB (by omega) h.main,hm _ _ _ hmw hq.status ⟨sn,tm,tB⟩]
 ·rw[gz _ _ _ Q1];exact h.deaf
 ·rw[act?_of hpc]
 ·refine⟨ic+1,by simp[Trace.g?,hpc],?_⟩
  have e2:t++u=(t++ #[({g:=ic+1,fn:=gc.frame.fn,pos:=gc.frame.place,act:= .access ⟨.obj E.Ch,false,true⟩}:MemOp)])++ #[({g:=ic+1,fn:=gc.frame.fn,pos:=gc.frame.place,act:= .close E.Ch}:MemOp)]:=by rw[←hu,Array.append_assoc];rfl
  have e3:=gz t (ic+1) #[({g:=ic+1,fn:=gc.frame.fn,pos:=gc.frame.place,act:= .access ⟨.obj E.Ch,false,true⟩}:MemOp)] (by intro op aA m;simp only[List.mem_toArray,List.mem_singleton] at aA;subst aA;simp)
  rw[e2,deaf_old (by simp)]
  unfold Deaf at e3 zn
  rw[Array.size_append] at e3
  exact e3.trans zn
 unfold kT
 rw[List.filterMap_eq_nil_iff]
 intro r hr
 obtain⟨k,hk⟩:=List.getElem?_of_mem hr
 by_cases eg:k=ic
 ·subst eg;rw[hic] at hk;cases hk;rfl
 obtain⟨qq,d,c,rfl⟩:=UB k r hk eg;rfl
end
section
variable {ι:Type} {E:ep ι} {L:Nat→Option Obj} {K:Nat→St} {gs:Array Goroutine} {w w':World} {t u:Trace} {D:List (au ι)} {pend d0:Nat} {cl:As} {main:Goroutine} {sl:Option (Nat×Nat)}
 {i:Nat} {g g':Goroutine} {es:Array Event}
def PLt(mx:Nat):List (au ι)×As→List (au ι)×As→Prop:=Prod.Lex (One uM) (InvImage Fc (nP mx))
theorem PLt.wf(mx:Nat):WellFounded (PLt (ι:=ι) mx):=(Prod.lex ⟨_,One.wf uM.wf⟩ ⟨_,InvImage.wf (nP mx) Fc.wf⟩).wf
theorem Inv.other(h:Inv E L K gs w t D pend cl main d0)(hm:gV E main)(hg:gs[i+1]?=some g) (hs:g.status= .running) (Ai:D[i]?≠some (.back .leaf)) (Ec:∀n,cl≠some (i,.run .leaf,n))
 (hw:(∃o,D[i]?=some (.work o .leaf))→main.status= .running):
 ∃K' lv w' u D' cl',runT E.P (crowd gs w sl) (i+1)=(.next (crowd lv w' sl),u)∧Inv E L K' lv w' (t++u) D' pend cl' main d0∧K' 0=K 0∧kT D'=kT D∧cl'.isSome=cl.isSome∧PLt E.max (D',cl') (D,cl)∧∀o,au.gN o∈D'→au.gN o∈D∨main.status= .running:=by
 have cN:i <D.length:=by have:=lt_size hg;have:=h.base.size;omega
 have hD:D[i]?=some D[i]:=List.getElem?_eq_getElem cN
 have fin:q7 E L K D pend cl main d0 (crowd gs w sl) sl t (i+1)→
  ∃K' lv w' u D' cl',runT E.P (crowd gs w sl) (i+1)=(.next (crowd lv w' sl),u)∧Inv E L K' lv w' (t++u) D' pend cl' main d0∧K' 0=K 0∧kT D'=kT D∧cl'.isSome=cl.isSome∧PLt E.max (D',cl') (D,cl)∧∀o,au.gN o∈D'→au.gN o∈D∨main.status= .running:=by
  rintro⟨K',lv,w',u,D',cl',h1,h2,h3,h4,h5,h6,h7,h8⟩
  refine⟨K',lv,w',u,D',cl',h1,h2,h3,h4,?_,Prod.Lex.left _ _ h5,h8⟩
  cases hc:cl with
  |none=>rw[h6 hc]
  |some x=>have:=h7 (by rw[hc];simp);cases cl'<;>simp_all
 obtain⟨x,hx,fF⟩:=h.base.ok i _ hD
 obtain rfl:x=g:=by rw[hg] at hx;exact(Option.some.inj hx).symm
 generalize hr:D[i]=r at hD fF
 match r,hD,fF with
 | .leave q d c,hD,fF=>exact fin (h.leave hm hD hg hs)
 | .work o (.node f),hD,fF=>exact fin (h.work hm hD hg)
 | .work o .leaf,hD,fF=>exact fin (h.Zz (hw ⟨o,hD⟩) hD hg)
 | .gN o,hD,⟨_,vq,qR,v,zs,X,Y,e,_⟩=>rw[e] at hs;cases hs
 | .back (.node f),hD,fF=>exact fin (h.back hm hD hg)
 | .back .leaf,hD,fF=>exact absurd hD Ai
 | .st k (n+1),hD,fF=>exact fin (h.asr hm hD hg)
 | .st .r0 0,hD,fF=>exact fin (h.r0 hm hD hg)
 | .st .k1 0,hD,fF=>exact fin (h.k1 hm hD hg)
 | .st .d1 0,hD,fF=>exact fin (h.d1 hm hD hg)
 | .st .d2 0,hD,fF=>exact fin (h.d2 hm hD hg)
 | .st .d3 0,hD,fF=>exact fin (h.d3 hm hD hg)
 | .st .d4 0,hD,fF=>exact fin (h.d4 hm hD hg)
 | .closer,hD,fF=>
  have jA:=h.sy.E8
  match cl,h,jA,Ec with
  |none,h,jA,_=>exact(jA _ (List.mem_of_getElem? hD)).elim
  |some (ic,c,n),h,⟨_,hu,_,_,_⟩,Ec=>
   have e:=hu i hD
   subst e
   obtain⟨K',lv,w',u,c',n',h1,h2,h3,h4⟩:=h.closer (sl:=sl) hm hg hs fun e=>Ec n (by rw[e])
   exact⟨K',lv,w',u,D,_,h1,h2,h3,rfl,rfl,Prod.Lex.right _ h4,fun _ h=> .inl h⟩
theorem Inv.awake(h:Inv E L K gs w t D pend cl main d0)(hm:gV E main):∀x∈gs,Go.Conc.awake x:=by
 intro x hx
 obtain⟨j,hj,rfl⟩:=Array.mem_iff_getElem.1 hx
 have hj':gs[j]?=some gs[j]:=Array.getElem?_eq_getElem hj
 intro k
 cases j with
 |zero=>
  rw[h.main] at hj'
  rw[←Option.some.inj hj']
  rcases hm with e| ⟨m,z,rfl⟩
  ·rw[e];simp
  simp[parked]
 |succ j=>
  have cN:j <D.length:=by have:=h.base.size;omega
  have hD:D[j]?=some D[j]:=List.getElem?_eq_getElem cN
  obtain⟨y,hy,fF⟩:=h.base.ok j _ hD
  rw[hj'] at hy
  rw[Option.some.inj hy]
  by_cases hb:∃o,D[j]= .gN o
  ·obtain⟨o,e⟩:=hb
   rw[e] at fF
   obtain⟨_,vq,qR,v,zs,X,Y,rfl,_⟩:=fF
   simp[parked]
  by_cases hc:D[j]= .closer
  ·have jA:=h.sy.E8
   match cl,jA with
   |none,jA=>
    have:=jA D[j] (List.mem_of_getElem? hD)
    rw[hc] at this
    exact this.elim
   |some (ic,c,n),⟨_,h2,_,⟨gc,FA,ql⟩,_⟩=>
    have e:=h2 j (by rw[hD,hc])
    subst e
    rw[hj',hy] at FA
    obtain rfl:=Option.some.inj FA
    by_cases ahc:c= .blk
    ·subst ahc
     obtain⟨_,vq,aqp,e⟩:=ql
     rw[e];simp
    rw[CK.uK ql ahc];simp
  rcases fF.running (fun o e=>hb ⟨o,e⟩) hc with e|e<;>rw[e]<;>simp
theorem Inv.le0(h:Inv E L K gs w t D pend cl main d0){s:St}(hl:s.le (K 0)):Inv E L (fW K 0 s) gs w t D pend cl main d0:=by
 have hle:∀j,(fW K 0 s j).le (K j):=fun j=>by
  by_cases e:j=0
  ·subst e;rw[aD];exact hl
  rw[aI _ _ e];exact St.le_refl _
 refine⟨⟨h.base.fit.le hle,h.base.size,fun k r hk=>?_,fun k hk b hb=>h.base.far k hk b ((hle k).knows hb),h.base.ops,h.base.same⟩,
  ⟨fun j hj=>h.sy.kW j ((hle j).knows hj),fun j hj=>h.sy.kC j ((hle j).knows hj),h.sy.lW,h.sy.lC,h.sy.ne,h.sy.norel,h.sy.plain,h.sy.said,h.sy.cells,h.sy.CL,h.sy.chan,h.sy.bal,?_⟩,h.main,h.deaf⟩
 ·rw[aI _ _ (by omega)];exact h.base.ok k r hk
 have jA:=h.sy.E8
 match cl,jA with
 |none,jA=>exact jA
 |some (ic,c,n),⟨h1,h2,h3,⟨gc,FA,ql⟩,h5⟩=>exact⟨h1,h2,h3,⟨gc,FA,by rw[aI _ _ (by omega)];exact ql⟩,h5⟩
def TC(E:ep ι)(L:Nat→Option Obj)(Q:Machine→Outcome→World→Trace→Prop)(pend:Nat)(b:Bool)(os:List ι)(d0:Nat)(g:Goroutine)(s:St):Prop:=
 ∀K gs w t D cl sl,cl.isSome=b→Inv E L K gs w t D pend cl g d0→kT D=os→s.le (K 0)→Ends E.P Q (crowd gs w sl) t
theorem xz{b:Bool}{os:List ι}{s:St}(hs:g.status= .running)
 (h:∀K gs w t D cl sl m,cl.isSome=b→Inv E L K gs w t D pend cl g d0→kT D=os→K 0=s→stepT E.P m=runT E.P (crowd gs w sl) 0→Ends E.P Q m t)
 (iZ:b=true→pend=0∧d0=0∧(os=[]→∀pc,TL E.P (jD pc) L (ID E pc) Q g s)):TC E L Q pend b os d0 g s:=by
 intro K gs w t D cl sl hb hI ho hle
 have key:∀μ:List (au ι)×As,∀K gs w t sl,μ.2.isSome=b→Inv E L K gs w t μ.1 pend μ.2 g d0→kT μ.1=os→K 0=s→Ends E.P Q (crowd gs w sl) t:=by
  intro μ
  induction μ using (PLt.wf E.max).induction with
  |_ μ ih=>
   obtain⟨D,cl⟩:=μ
   intro K gs w t sl hb hI ho hK
   simp only at hb hI ho
   obtain⟨i,fB,d,SG,dv,G9,bW⟩:=crowd_pick (P:=E.P) (gs:=gs) (w:=w) (sl:=sl) (hI.awake (.inl hs)) ⟨0,g,hI.main,hs⟩
   have zr:=hI.at d
   cases i with
   |zero=>exact h K gs _ t D cl SG _ hb zr ho hK bW
   |succ i=>
    by_cases E1:D[i]?=some (.back .leaf)
    ·obtain⟨n,h1,h2,h3⟩:=hI.norm E1
     exact ih (_,cl) (Prod.Lex.left _ _ h3) _ gs w t sl hb h1 (h2.trans ho) (by rw[aI _ _ (by omega)];exact hK)
    by_cases hc:∃n,cl=some (i,.run .leaf,n)
    ·obtain⟨n,e⟩:=hc
     subst e
     obtain⟨hp,hd,hT⟩:=iZ (by rw[←hb];rfl)
     subst hp
     obtain⟨lv,w',u,q,hr,hL,h0,hdd,hG,tO⟩:=zr.close (sl:=SG) (main':=g) (fun a a' w' _ _ _=>by
      unfold Go.Conc.woken
      split
      ·exact again_running _ (.inl hs)
      rfl) dv
     exact Ends.next (bW.trans hr) (hT (ho.symm.trans tO) (t.size+1) _ lv w' _ q SG hL h0 (by simp only[if_true];rw[hK];exact St.le_refl _) (by rw[hdd];exact hd) hG)
    obtain⟨K',lv,w',u,D',cl',hr,NL,lI,IL,gu,cN,_⟩:=zr.other (sl:=SG) (.inl hs) dv G9 E1 (fun n e=>hc ⟨n,e⟩) (fun _=>hs)
    exact Ends.next (bW.trans hr) (ih (D',cl') cN K' lv w' _ SG (gu.trans hb) NL (IL.trans ho) (lI.trans hK))
 exact key (D,cl) _ gs w t sl hb (hI.le0 hle) ho (aD _ _ _)
end
section
variable {ι:Type} {E:ep ι} {L:Nat→Option Obj} {Q:Machine→Outcome→World→Trace→Prop} {g:Goroutine} {s:St}
theorem Wn(U4:L E.Ch=none){x:Goroutine}(hx:x.status= .running)(bW:∀w,aS s w→stepG E.P true x w= .comm g #[rcase E.Ch z] true (.recv true) w #[])
 (nF:∀w,aS s w→(∀b o,L b=some o→w.heap[b]?=some o)→aS s' w) (Am:∀b,s'.knows b→L b≠none∨s.knows b)
 (hT:TL E.P eT (fun _=>none) (Calm E.os E.out) Q (Conc.served g (.tuple #[z,.bool false])) s'):TL E.P (jD pc) L (ID E pc) Q x s:=by
 refine Mr (Rx pc) (HJ E pc) hx fun K gs w t q sl m hL h0 hK hd hG hm _=>?_
 subst hK
 obtain⟨⟨sn,tm,hc⟩,hkC,anF,avG,aDW,af0⟩:=hG
 have IM:partners (gs.setIfInBounds 0 ph) E.Ch true=[]:=partners_nil fun j y hy=>by
  rcases getElem?_stand gs _ _ _ hy with ⟨_,rfl⟩| ⟨hj,hy'⟩
  ·exact offersAt_ph _ _
  cases j with
  |zero=>exact absurd rfl hj
  |succ j=>
   have cN:j <q.length:=by have:=lt_size hy';have:=hL.size;omega
   obtain⟨y',d,hy2,hq,_⟩:=hL.ok j _ (List.getElem?_eq_getElem cN)
   rw[hy'] at hy2
   rw[Option.some.inj hy2]
   exact rE hq.status _ _
 have bX:=crowd_recv_closed (sl:=sl) h0 (by simpa using bW w (hL.fit.jV 0)) hc IM
 have e0:MemOp.ofEvents 0 x.frame.fn x.frame.place #[]= #[]:=rfl
 rw[e0,Array.empty_append] at bX
 generalize hu:(#[{g:=0,fn:=g.frame.fn,pos:=g.frame.place,act:= .recvClosed E.Ch}]:Trace)=u at bX
 have Lc:∀op∈u,op.g=0∧op.act= .recvClosed E.Ch:=by rw[←hu];intro op aA;simp at aA;subst aA;exact⟨rfl,rfl⟩
 have XX:∀op∈u,op.act.touch?=none:=fun op aA=>by rw[(Lc op aA).2];rfl
 have Q1:∀op∈u,∀m,op.act≠ .mark m:=fun op aA m=>by rw[(Lc op aA).2];simp
 have hr:(t++u)[t.size]?=some {g:=0,fn:=g.frame.fn,pos:=g.frame.place,act:= .recvClosed E.Ch}:=by rw[←hu];simp
 have aqg:=lt_of_act? anF
 have abc:HappensBefore (t++u) pc t.size:= .single (.inr ⟨.closed (c:=E.Ch) (by rw[act?_old aqg];exact anF) (by rw[act?_of hr]),(heard_old aqg).2 avG,⟨0,by simp[Trace.g?,hr],by rw[deaf_old (Nat.le_refl _)];exact hd⟩⟩)
 have dk:∀i n,q[i]?=some n→eT (t++u) (i+1):=fun i n hi=>by
  obtain⟨y,d,hy,hq,hdd,hk⟩:=hL.ok i n hi
  rcases hk.2 with hk|hk
  ·exact hk.quiet XX
  intro p hp hct
  obtain⟨op,ho,hgo⟩:=Option.map_eq_some_iff.1 hp
  rcases getElem?_append_cases ho with ⟨UD,_⟩| ⟨_,jz⟩
  ·exact⟨t.size,by simp[Trace.g?,hr],(hb_app u (hk p (by rw[←g?_old (u:=u) UD];exact hp) ((counts_old UD).1 hct))).trans abc⟩
  rw[(Lc op jz).1] at hgo;omega
 have nG:=hL.fit.quiet (u:=u) (w':=w) E.Ch (fun j=>by
  by_cases e:j=0
  ·subst e;exact hkC
  exact hL.none j _ e) U4 (Nat.le_refl _) (fun _ _ _=>rfl) XX
 refine Ends.next (hm.trans bX) (hT (fW K 0 s') _ w _ q sl ⟨?_,by simp[hL.size],fun i n hi=>?_,fun i b hi hk=>?_,fun op aA=>?_⟩ ?_ (by rw[aD];exact St.le_refl _) (by rw[gz _ _ _ Q1];exact hd) ⟨fun a=>(aDW a).app fun op aA=>Q1 op aA _,af0⟩)
 ·refine nG.alone (i:=0) (fun j hj b=>hL.none j b hj) s' (nF w (hL.fit.jV 0) hL.fit.EM) Am fun b hb p y hy SU hyb=>?_
  obtain⟨op,ho,hyo⟩:=touch_of hy
  have cN:op.g <gs.size:=by
   rcases Array.mem_append.1 (mem_of_getElem? ho) with h'|h'
   ·exact hL.ops op h'
   rw[(Lc op h').1,hL.size];omega
  cases hgo:op.g with
  |zero=>have:=knows_own ho;rwa[hgo] at this
  |succ k=>
   have hk:k <q.length:=by have:=hL.size;omega
   obtain⟨j,hj,mL⟩:=dk k _ (List.getElem?_eq_getElem hk) p (by simp[Trace.g?,ho,hgo]) ⟨y,by simpa [touchAt] using hy,by cases hl:y.loc<;>simp_all[blk,Loc.isMemory],.inl (by rw[SU];simp)⟩
   obtain⟨z',EO,hzg⟩:=Option.map_eq_some_iff.1 hj
   exact⟨j,z',EO,hzg,.inr mL⟩
 ·obtain⟨y,d,hy,hq,hdd,hk⟩:=hL.ok i n hi
  exact⟨y,d,by rw[Array.getElem?_setIfInBounds_ne (by omega)];exact hy,hq,by rw[gz _ _ _ Q1];exact hdd,dk i n hi⟩
 ·rw[aI _ _ hi] at hk;exact hL.none i b hi hk
 ·rw[Array.size_setIfInBounds]
  rcases Array.mem_append.1 aA with h'|h'
  ·exact hL.ops op h'
  rw[(Lc op h').1,hL.size];omega
 have:0 <gs.size:=by rw[hL.size];omega
 simp[this,finishComm_recv,recvd]
end
section
variable {ι:Type} {E:ep ι} {L:Nat→Option Obj} {K:Nat→St} {gs:Array Goroutine} {w w':World} {t:Trace} {D:List (au ι)} {pend d0:Nat} {cl:As} {main:Goroutine} {sl:Option (Nat×Nat)}
 {i:Nat} {Q:Machine→Outcome→World→Trace→Prop} {g:Goroutine} {s:St}
theorem setChan_at(w:World)(d c:Nat)(h:c <w.heap.size)(sn rc:Nat)(tm:Bool):
 ((w.at d).setChan c 0 #[] false sn rc tm).heap[c]?=some (.chan 0 #[] false sn rc tm)∧((w.at d).setChan c 0 #[] false sn rc tm).heap.size=w.heap.size∧
 ∀b,b≠c→((w.at d).setChan c 0 #[] false sn rc tm).heap[b]?=w.heap[b]?:=by
 refine⟨by simp[World.setChan,World.at,h],by simp[World.setChan,World.at],fun b hb=>by simp[World.setChan,World.at,Ne.symm hb]⟩
theorem Inv.alive(h:Inv E L K gs w t D 0 cl main d0)(iZ:cl≠none)(hn:∀o,au.gN o∉D):∃(i:Nat) (x:Goroutine),gs[i]?=some x∧x.status= .running:=by
 by_cases dk:∀r∈D,r.left=true∨r= .closer
 ·have jA:=h.sy.E8
  obtain⟨st,sm,_,nB⟩:=h.sy.cells
  match cl,jA,nB,iZ with
  |some (ic,c,n),⟨_,_,_,⟨gc,FA,ql⟩,_⟩,nB,_=>
   refine⟨_,gc,FA,CK.uK ql fun e=>?_⟩
   subst e
   have z:∀(f:au ι→Nat),(∀q d c,f (.leave q d c)=0)→f .closer=0→fG f D=0:=fun f h1 h2=>by
    unfold fG
    rw[List.sum_eq_zero_iff_forall_eq_nat]
    intro x hx
    obtain⟨r,hr,rfl⟩:=List.mem_map.1 hx
    rcases dk r hr with e|rfl
    ·cases r<;>first|exact h1 _ _ _|cases e
    exact h2
   have z1:=z au.cnt (fun _ _ _=>rfl) rfl
   have z4:=z au.c4 (fun _ _ _=>rfl) rfl
   have z3:=z au.c3 (fun _ _ _=>rfl) rfl
   have z2:=z au.c2 (fun _ _ _=>rfl) rfl
   rw[z1,z4,z3,z2] at nB
   simp only[Option.map_some] at nB
   generalize ho:some CK.blk=o at nB
   generalize h0:0+0=k at nB
   cases nB with
   |reg _ h2=>omega
   |sema _ h2=>cases ho;exact h2 rfl
   |over h1=>cases ho;exact h1.elim
   |_=>cases ho
 obtain⟨r,mb⟩:=Classical.not_forall.1 dk
 obtain⟨hr,BY⟩:=Classical.not_imp.1 mb
 have h1:¬r.left=true:=fun e=>BY (.inl e)
 have h2:r≠ .closer:=fun e=>BY (.inr e)
 obtain⟨k,hk⟩:=List.getElem?_of_mem hr
 obtain⟨x,hx,fF⟩:=h.base.ok k r hk
 refine⟨_,x,hx,?_⟩
 cases r with
 |leave q d c=>exact absurd rfl h1
 |work o tr=>exact oY.running (fun _ _ y=>y.1) fF.2
 |gN o=>exact absurd hr (hn o)
 |back tr=>exact oY.running (fun _ _ y=>ep.pure.running (fun _ z=>z.1) y) fF.2
 |st k n=>exact Pure.running (WK.running k) fF.2.2.1
 |closer=>exact absurd rfl h2
theorem Inv.ZA(h:Inv E L K gs w t D pend cl (parked g #[rcase E.Ch z] (.recv true)) 0)(iZ:cl≠none){o:ι}{gw:Goroutine}(hi:D[i]?=some (.work o .leaf)) (hg:gs[i+1]?=some gw):
 ∃K' lv w' u D' v X a b,runT E.P (crowd gs w sl) (i+1)=(.next (crowd lv w' sl),u)∧Inv E L K' lv w' (t++u) D' pend cl (Conc.served g (.tuple #[v,.bool true])) 0∧K' 0=⟨(K 0).ro,X++(K 0).rw⟩∧
  E.V4 o v X∧kT D=a++o::b∧kT D'=a++b:=by
 obtain⟨fB,dv,fF⟩:=h.base.ok i _ hi
 obtain rfl:fB=gw:=by rw[hg] at dv;exact(Option.some.inj dv).symm
 obtain⟨hd,hs,qR,v,zs,X,Y,hXY,oM,bW,tr,iG,hle,yu⟩:=fF
 obtain⟨sn,rc,tm,hc⟩:=h.sy.chan
 have vi:=h.base.size
 have aR6:partners (gs.setIfInBounds (i+1) ph) E.Ch false=[(0,0)]:=by
  have h0:(gs.setIfInBounds (i+1) ph)[0]?=some (parked g #[rcase E.Ch z] (.recv true)):=stand_get (by omega) h.main
  rw[partners_one h0 fun k x hk hx=>?_]
  ·rw[offersAt_parked_recv];simp
  rcases getElem?_stand gs _ _ _ hx with ⟨_,rfl⟩| ⟨_,ma⟩
  ·exact offersAt_ph _ _
  cases k with
  |zero=>exact absurd rfl hk
  |succ k=>
   rcases h.offers ma with ⟨o',g',v',zs',_,rfl⟩|hn
   ·exact offersAt_parked_send' _ _ _ _ _ _
   exact hn _ _
 have bX:=crowd_send_meets (sl:=sl) hg (by simpa using bW w (h.base.fit.jV _)) hc (by omega) h.main aR6
 have e0:MemOp.ofEvents (i+1) fB.frame.fn fB.frame.place #[]= #[]:=rfl
 rw[e0,Array.empty_append] at bX
 obtain⟨a,b,ha,hb⟩:=CC (r':=au.back tr) rfl hi (o:=o) rfl
 have hwc:=setChan_at w w.drawn E.Ch (lt_size hc) (sn+1) (rc+1) tm
 refine⟨_,_,_,_,_,v,X,a,b,bX,h.meet iZ hi (.inl rfl) hd hXY hle yu (by simp) ?_ ?_ (fun k h1 h2=>?_) hc hwc.1 hwc.2.1 hwc.2.2 ⟨rfl,rfl⟩ ⟨rfl,rfl⟩ ⟨rfl,rfl⟩ ⟨rfl,rfl⟩ ⟨rfl,rfl⟩,aD _ _ _,oM,ha,hb⟩
 ·rw[Array.getElem?_setIfInBounds_ne (by omega),Array.getElem?_setIfInBounds_self_of_lt (by omega)]
  rw[finishComm_recv];rfl
 ·rw[Array.getElem?_setIfInBounds_self_of_lt (by have:=lt_size hg;simpa using this)]
  rw[finishComm_send]
 rw[Array.getElem?_setIfInBounds_ne (Ne.symm h2),Array.getElem?_setIfInBounds_ne (Ne.symm h1)]
theorem PZ{os:List ι}
 (Ld:∀a o b v X,os=a++o::b→E.V4 o v X→TC E L Q 0 true (a++b) 0 (Conc.served g (.tuple #[v,.bool true])) ⟨s.ro,X++s.rw⟩)
 (qL:os=[]→∀pc,TL E.P (jD pc) L (ID E pc) Q {parked g #[rcase E.Ch z] (.recv true) with status:= .running} s):
 ∀(μ:List (au ι)×As) K gs w t sl,μ.2.isSome=true→Inv E L K gs w t μ.1 0 μ.2 (parked g #[rcase E.Ch z] (.recv true)) 0→kT μ.1=os→K 0=s→(∀o,au.gN o∉μ.1)→Ends E.P Q (crowd gs w sl) t:=by
 intro μ
 induction μ using (PLt.wf E.max).induction with
 |_ μ ih=>
  obtain⟨D,cl⟩:=μ
  intro K gs w t sl hb hI ho hK hn
  simp only at hb hI ho hn
  have iZ:cl≠none:=fun e=>by rw[e] at hb;cases hb
  have Q0:gV E (parked g #[rcase E.Ch z] (.recv true)):= .inr ⟨g,z,rfl⟩
  obtain⟨i,fB,d,SG,dv,G9,bW⟩:=crowd_pick (P:=E.P) (gs:=gs) (w:=w) (sl:=sl) (hI.awake Q0) (hI.alive iZ hn)
  have zr:=hI.at d
  cases i with
  |zero=>rw[hI.main] at dv;rw[←Option.some.inj dv] at G9;cases G9
  |succ i=>
   by_cases E1:D[i]?=some (.back .leaf)
   ·obtain⟨n,h1,h2,h3⟩:=hI.norm E1
    refine ih (_,cl) (Prod.Lex.left _ _ h3) _ gs w t sl hb h1 (h2.trans ho) (by rw[aI _ _ (by omega)];exact hK) fun o hm=>?_
    rcases List.mem_or_eq_of_mem_set hm with h'|h'
    ·exact hn o h'
    cases h'
   by_cases hc:∃n,cl=some (i,.run .leaf,n)
   ·obtain⟨n,e⟩:=hc
    subst e
    obtain⟨lv,w',u,q,hr,hL,h0,hdd,hG,tO⟩:=zr.close (sl:=SG) (main':={parked g #[rcase E.Ch z] (.recv true) with status:= .running}) (fun a a' w' hmw nF ⟨sn,tm,tB⟩=>by
     have:(mayWake E.P a&&a'.status != .blocked&&a'.status != .waiting)=true:=by rcases nF with e|e<;>simp[hmw,e]
     unfold Go.Conc.woken
     rw[if_pos this]
     exact again_recv_closed tB) dv
    exact Ends.next (bW.trans hr) (qL (ho.symm.trans tO) (t.size+1) _ lv w' _ q SG hL h0 (by simp only[if_true];rw[hK];exact St.le_refl _) (by rw[hdd]) hG)
   by_cases EV:∃o,D[i]?=some (.work o .leaf)
   ·obtain⟨o,hi⟩:=EV
    obtain⟨K',lv,w',u,D',v,X,a,b,hr,NL,lI,oM,ha,mL⟩:=zr.ZA (sl:=SG) iZ hi dv
    refine Ends.next (bW.trans hr) (Ld a o b v X (ho.symm.trans ha) oM K' lv w' _ D' cl SG hb NL mL ?_)
    rw[lI,hK];exact St.le_refl _
   obtain⟨K',lv,w',u,D',cl',hr,NL,lI,IL,gu,cN,hsb⟩:=zr.other (sl:=SG) Q0 dv G9 E1 (fun n e=>hc ⟨n,e⟩) (fun hx=>absurd hx EV)
   refine Ends.next (bW.trans hr) (ih (D',cl') cN K' lv w' _ SG (gu.trans hb) NL (IL.trans ho) (lI.trans hK) fun o hm=>?_)
   rcases hsb o hm with h'|h'
   ·exact hn o h'
   cases h'
theorem Wt{os:List ι}(hs:g.status= .running)(bW:∀w,aS s w→stepG E.P true g w= .comm g #[rcase E.Ch z] true (.recv true) w #[])
 (Ld:∀a o b v X,os=a++o::b→E.V4 o v X→TC E L Q 0 true (a++b) 0 (Conc.served g (.tuple #[v,.bool true])) ⟨s.ro,X++s.rw⟩)
 (qL:os=[]→∀pc,TL E.P (jD pc) L (ID E pc) Q g s∧TL E.P (jD pc) L (ID E pc) Q {parked g #[rcase E.Ch z] (.recv true) with status:= .running} s):TC E L Q 0 true os 0 g s:=by
 refine xz hs (fun K gs w t D cl sl m hb hI ho hK hm=>?_) fun _=>⟨rfl,rfl,fun h pc=>(qL h pc).1⟩
 have iZ:cl≠none:=fun e=>by rw[e] at hb;cases hb
 obtain⟨sn,rc,tm,hc⟩:=hI.sy.chan
 have hgo:=bW w (hK▸hI.base.fit.jV 0)
 have e0:MemOp.ofEvents 0 g.frame.fn g.frame.place #[]= #[]:=rfl
 by_cases eg:partners (gs.setIfInBounds 0 ph) E.Ch true=[]
 ·have bX:=crowd_waits (sl:=sl) hI.main (by simpa using hgo) (fun cc u1=>by
   simp only[List.mem_toArray,List.mem_singleton] at u1
   subst u1
   exact ways_recv_none hc eg)
  rw[e0] at bX
  have vi:=hI.base.size
  refine Ends.next (hm.trans bX) (PZ Ld (fun h pc=>(qL h pc).2) (D,cl) K _ w _ sl hb ⟨⟨?_,by simp[vi],fun k r hk=>?_,fun k hk=>hI.base.far k (by simpa using hk),fun op aA=>?_,hI.base.same⟩,?_,?_,?_⟩ ho hK fun o hm=>?_)
  ·rw[Array.append_empty];exact hI.base.fit
  ·obtain⟨x,hx,fF⟩:=hI.base.ok k r hk
   exact⟨x,by rw[Array.getElem?_setIfInBounds_ne (by omega)];exact hx,by rw[Array.append_empty];exact fF⟩
  ·rw[Array.append_empty] at aA;rw[Array.size_setIfInBounds];exact hI.base.ops op aA
  ·rw[Array.append_empty]
   refine⟨hI.sy.kW,hI.sy.kC,hI.sy.lW,hI.sy.lC,hI.sy.ne,hI.sy.norel,hI.sy.plain,hI.sy.said,hI.sy.cells,hI.sy.CL,hI.sy.chan,hI.sy.bal,?_⟩
   have jA:=hI.sy.E8
   match cl,jA with
   |none,jA=>exact jA
   |some (ic,c,n),⟨h1,h2,h3,⟨gc,FA,ql⟩,h5⟩=>exact⟨h1,h2,h3,⟨gc,by rw[Array.getElem?_setIfInBounds_ne (by omega)];exact FA,ql⟩,h5⟩
  ·rw[Array.getElem?_setIfInBounds_self_of_lt (by omega)]
  ·rw[Array.append_empty];exact hI.deaf
  obtain⟨k,hk⟩:=List.getElem?_of_mem hm
  obtain⟨x,hx,_,vq,qR,v,zs,X,Y,rfl,_⟩:=hI.base.ok k _ hk
  have:((k+1,0):Nat×Nat)∈partners (gs.setIfInBounds 0 ph) E.Ch true:=mem_partners.2 ⟨_,stand_get (by omega) hx,by rw[offersAt_parked_send];simp⟩
  rw[eg] at this;cases this
 obtain⟨j,gj,vj,zj,shj,d,hj0,hj,bX⟩:=crowd_recv_meets_some (sl:=sl) hI.main (by simpa using hgo) hc eg fun j k OG=>by
  obtain⟨x,hx,hk⟩:=mem_partners.1 OG
  rcases getElem?_stand gs _ _ _ hx with ⟨_,rfl⟩| ⟨hj0,ma⟩
  ·rw[offersAt_ph] at hk;cases hk
  cases j with
  |zero=>exact absurd rfl hj0
  |succ j=>
   rcases hI.offers ma with ⟨o',g',v',zs',_,rfl⟩|hn
   ·rw[offersAt_parked_send] at hk
    simp at hk
    exact⟨hk,by omega,_,_,_,_,ma⟩
   rw[hn] at hk;cases hk
 rw[e0,Array.empty_append] at bX
 cases j with
 |zero=>exact absurd rfl hj0
 |succ i=>
  rcases hI.offers hj with ⟨o,qR,v,zs,hi,e⟩|hn
  ·obtain⟨x,hx,zn,vq,aHw,v',zs',X,Y,e',hXY,oM,_,tr,iG,hle,yu⟩:=hI.base.ok i _ hi
   obtain rfl:x=parked gj #[scase E.Ch vj zj] shj:=by rw[hj] at hx;exact(Option.some.inj hx).symm
   have hv:vj=v':=by
    have:=congrArg Goroutine.offers e'
    simp only[parked,scase,Option.some.injEq,Prod.mk.injEq,Array.mk.injEq,List.cons.injEq,CommCase.mk.injEq] at this
    exact this.1.1.2.1
   have hsv:gj.finishComm E.P #[scase E.Ch vj zj] shj 0 undef false=Conc.served aHw undef:=by
    have h1:shj= .send:=by
     have:=congrArg Goroutine.offers e'
     simp only[parked,Option.some.injEq,Prod.mk.injEq] at this
     exact this.2
    subst h1
    rw[finishComm_send]
    have h2:=congrArg (fun x:Goroutine=>Conc.served x undef) e'
    exact h2
   subst hv
   obtain⟨a,b,ha,mL⟩:=CC (r':=au.back tr) rfl hi (o:=o) rfl
   have hwc:=setChan_at w d E.Ch (lt_size hc) (sn+1) (rc+1) tm
   have vi:=hI.base.size
   refine Ends.next (hm.trans bX) (Ld a o b vj X (ho.symm.trans ha) oM _ _ _ _ (D.set i (.back tr)) cl sl hb
    (hI.meet iZ hi (.inr rfl) zn hXY hle yu (by simp) ?_ ?_ (fun k h1 h2=>?_) hc hwc.1 hwc.2.1 hwc.2.2 ⟨rfl,rfl⟩ ⟨rfl,rfl⟩ ⟨rfl,rfl⟩ ⟨rfl,rfl⟩ ⟨rfl,rfl⟩) mL ?_)
   ·rw[Array.getElem?_setIfInBounds_self_of_lt (by simp;omega),finishComm_recv];rfl
   ·rw[Array.getElem?_setIfInBounds_ne (by omega),Array.getElem?_setIfInBounds_self_of_lt (lt_size hj),hsv]
   ·rw[Array.getElem?_setIfInBounds_ne (Ne.symm h1),Array.getElem?_setIfInBounds_ne (Ne.symm h2)]
   rw[aD,hK];exact St.le_refl _
  have:(0:Nat)∈offersAt (parked gj #[scase E.Ch vj zj] shj) E.Ch true:=by rw[offersAt_parked_send];simp
  rw[hn] at this;cases this
end
section
variable {ι:Type} {E:ep ι} {L:Nat→Option Obj} {K:Nat→St} {gs:Array Goroutine} {w w':World} {t:Trace} {D:List (au ι)} {pend d0:Nat} {cl:As} {sl:Option (Nat×Nat)}
 {Q:Machine→Outcome→World→Trace→Prop} {g g':Goroutine} {s:St} {es:Array Event}
theorem Inv.go0(h:Inv E L K gs w t D pend cl g d0)(hgo:stepG E.P true g w= .go g' w' es)(QO:V5 w w')(bB:¬s'.knows E.Wg)(nJ:¬s'.knows E.Ch)(vz:w'.heap[E.Ch]?=w.heap[E.Ch]?)
 (nG:Fit L (fW K 0 s') w' (t++MemOp.ofEvents 0 g.frame.fn g.frame.place es))
 (lh:∀op∈MemOp.ofEvents 0 g.frame.fn g.frame.place es,∀x,op.act.touch?=some x→E.At x→x.kind≠ .plain∧(x.kind= .said→cl=none))
 (iJ:∀op∈MemOp.ofEvents 0 g.frame.fn g.frame.place es,∀a,op.act≠ .mark (.release a)) 
 (n7:∀cl',Ad cl cl'→∃st sm,WgAt E.ty E.Wg w' st sm∧Md E.max (fG au.cnt D+mr) (fG au.c4 D) (fG au.c3 D) (fG au.c2 D) (cl'.map (·.2.1)) st sm) (QZ:fG au.cnt D+mr≤E.max):
 ∃lv u cl',runT E.P (crowd gs w sl) 0=(.next (crowd lv w' sl),u)∧Inv E L (fW K 0 s') lv w' (t++u) D mr cl' g' (deafBehind d0 es)∧cl'.isSome=cl.isSome:=by
 have Lc:∀op∈MemOp.ofEvents 0 g.frame.fn g.frame.place es,op.g=0:=fun op aA=>Go.ConcR.g_of_ofEvents op aA
 have bX:=runT_crowd_go (P:=E.P) (sl:=sl) (i:=0) h.main (by simpa using hgo)
 have hdo:Deaf (t++MemOp.ofEvents 0 g.frame.fn g.frame.place es) 0=deafBehind d0 es:=by rw[Deaf_own,h.deaf]
 generalize MemOp.ofEvents 0 g.frame.fn g.frame.place es=u at*
 obtain⟨sn,rc,tm,hc⟩:=h.sy.chan
 have tB:w'.heap[E.Ch]?=some (.chan 0 #[] false sn rc tm):=by rw[vz];exact hc
 have eg:∀k,∀op∈u,op.g≠k+1:=fun k op aA=>by rw[Lc op aA];omega
 have IS:∀b,¬s'.knows b→(∀j,¬(K j).knows b)→∀j,¬(fW K 0 s' j).knows b:=fun b h1 h2 j=>by
  by_cases e:j=0
  ·subst e;rw[aD];exact h1
  rw[aI _ _ e];exact h2 j
 obtain⟨cl',EV,jA⟩:∃cl',Ad cl cl'∧aj9 E (fW K 0 s') ((gs.map (woken E.P g g' w')).setIfInBounds 0 g') (t++u) D cl':=by
  have jA:=h.sy.E8
  match cl,jA with
  |none,jA=>exact⟨none,.same _,jA⟩
  |some (ic,c,n),⟨h1,h2,h3,⟨gc,FA,ql⟩,h5⟩=>
   obtain⟨c',n',hw,awl,_,hdc⟩:=CK.tries (ic:=ic) ql g g' w'
   refine⟨some (ic,c',n'),hw,h1,h2,by rw[iq _ _ (eg ic),hdc];exact h3,⟨_,gB (by omega) FA,by rw[aI _ _ (by omega)];exact awl⟩,fun⟨tr,e⟩=>?_⟩
   subst e
   cases hw with
   |same=>
    obtain⟨q,a1,a2,a3,a4⟩:=h5 ⟨tr,rfl⟩
    have hq:=lt_of_act? a1
    exact⟨q,by rw[act?_old hq];exact a1,by rw[g?_old hq];exact a2,(heard_old hq).2 a3,fun i r hi hcu=>let ⟨p,hp,XY⟩:=a4 i r hi hcu;⟨p,RelBy.other hp (eg i),XY⟩⟩
 refine⟨_,u,cl',bX,⟨⟨nG,by simp[h.base.size],fun k r hk=>?_,fun k hk b hb=>?_,fun op aA=>?_,⟨QO.1.trans h.base.same.1,QO.2.trans h.base.same.2⟩⟩,
  ⟨IS _ bB h.sy.kW,IS _ nJ h.sy.kC,h.sy.lW,h.sy.lC,h.sy.ne,fun a=>(h.sy.norel a).app fun op aA=>iJ op aA a,fun j hj p x hx hb hk=>?_,?_,n7 cl' EV,QZ,⟨sn,rc,tm,tB⟩,fun a b c hx=>h.sy.bal a b c (by rw[←vz];exact hx),jA⟩,?_,hdo⟩,by cases EV<;>rfl⟩
 ·obtain⟨x,hx,fF⟩:=h.base.ok k r hk
  rw[aI _ _ (by omega)]
  have aaF:=fF.other (eg k)
  by_cases S2:r= .closer
  ·subst S2;exact⟨_,gB (by omega) hx,trivial⟩
  exact⟨x,by rw[gB (by omega) hx,fF.woken S2 fun _=>⟨sn,rc,tm,tB⟩],aaF⟩
 ·rw[Array.size_setIfInBounds,Array.size_map] at hk
  have:=h.base.size
  rw[aI _ _ (by omega)] at hb
  exact h.base.far k hk b hb
 ·rw[Array.size_setIfInBounds,Array.size_map]
  rcases Array.mem_append.1 aA with h'|h'
  ·exact h.base.ops op h'
  rw[Lc op h',h.base.size];omega
 ·rcases bJ hx with ⟨_,ma⟩| ⟨_,op,SY,_,yq⟩
  ·exact(h.sy.plain j hj p x ma hb hk).app u
  exact absurd hk (lh op SY x yq hb).1
 ·have OD:=h.sy.said
  match cl,cl',EV,OD,lh with
  |none,_,.same _,OD,_=>
   intro p x hx hb hk
   rcases bJ hx with ⟨_,ma⟩| ⟨hp,op,SY,aA,yq⟩
   ·exact(OD p x ma hb hk).app u
   exact CZ Lc hp aA
  |some (ic,c,n),_,.same _,OD,lh=>
   intro he p x hx hb hk
   rcases bJ hx with ⟨_,ma⟩| ⟨_,op,SY,_,yq⟩
   ·exact(OD he p x ma hb hk).app u
   exact absurd ((lh op SY x yq (.inl hb)).2 hk) (by simp)
  |_,_,.up ic,_,_=>exact fun he=>he.elim
 have:=h.base.size
 rw[Array.getElem?_setIfInBounds_self_of_lt (by simp;omega)]
theorem Inv.Ig(h:Inv E L K gs w t D pend cl g d0)(hw:w'.heap[E.Wg]?=w.heap[E.Wg]?):∀cl',Ad cl cl'→∃st sm,WgAt E.ty E.Wg w' st sm∧Md E.max (fG au.cnt D+pend) (fG au.c4 D) (fG au.c3 D) (fG au.c2 D) (cl'.map (·.2.1)) st sm:=by
 intro cl' EV
 obtain⟨st,sm,ha,hm⟩:=h.sy.cells
 exact⟨st,sm,by unfold WgAt;rw[hw];exact ha,hm.aro EV⟩
def TM(E:ep ι)(L:Nat→Option Obj)(Q:Machine→Outcome→World→Trace→Prop)(pend:Nat)(b:Bool)(os:List ι)(d0:Nat)(g:Goroutine)(s:St):Prop:=
 TC E L Q pend b os d0 g s∧(b=true→os=[]→∀pc,TL E.P (jD pc) L (ID E pc) Q g s)
theorem TC.mono{b:Bool}{os:List ι}(hl:s.le s')(h:TC E L Q pend b os d0 g s):TC E L Q pend b os d0 g s':=
 fun K gs w t D cl sl hb hI ho hle=>h K gs w t D cl sl hb hI ho (hl.trans hle)
theorem fD(b:Bool)(os:List ι)(hb:b=true→pend=0):Closed E.P true (TM E L Q pend b os 0) where
 step:=fun g s hs h=>by
  have hL:b=true→os=[]→∀pc,TL E.P (jD pc) L (ID E pc) Q g s:=fun e ho pc=>
   (JQ (Rx pc) (HJ E pc) Q).step g s hs fun w ha=>let ⟨g',w',es,s',h1,h2,h3,h4⟩:=h w ha;⟨g',w',es,s',h1,h2,h3,h4.2 e ho pc⟩
  refine⟨xz hs (fun K gs w t D cl sl m iZ hI ho hK hm=>?_) fun e=>⟨hb e,rfl,fun ho pc=>hL e ho pc⟩,hL⟩
  subst hK
  obtain⟨g',w',es,s',hgo,_,ht,hT,_⟩:=h w (hI.base.fit.jV 0)
  obtain⟨k1,k2,k3,k4,k5,k6⟩:=hI.sy.AU ht g.frame.fn g.frame.place
  obtain⟨lv,u,cl',hr,zr,UW⟩:=hI.go0 (sl:=sl) hgo ⟨ht.os,ht.output⟩ k1 k2 k4 (hI.base.fit.own ht _ _) (fun op aA x hx sD=>absurd sD (k5 op aA x hx)) k6 (hI.Ig k3) hI.sy.CL
  rw[ht.deaf] at zr
  exact Ends.next (hm.trans hr) (hT _ lv w' _ D cl' sl (UW.trans iZ) zr ho (by rw[aD];exact St.le_refl _))
 mono:=fun g s s' hl h=>⟨h.1.mono hl,fun e ho pc=>(h.2 e ho pc).mono hl⟩
theorem Md.opened{mx a b c:Nat}{o:Option CK}(h:Md mx n a b c o st sm)(ho:o=none):st=(n:Int)*KK∧sm=0:=by
 cases h with
 |start=>exact⟨rfl,rfl⟩
 |_=>cases ho
theorem Fo{b:Bool}{os:List ι}{d':Nat}(hs:g.status= .running)(hb:b=false)
 (h:∀w st sm,WgAt E.ty E.Wg w st sm→(b=false→st=((os.length+pend:Nat):Int)*KK∧sm=0)→os.length+pend≤E.max→∃w',stepG E.P true g w= .go g' w' es∧eY E w w'∧WgAt E.ty E.Wg w' (((os.length+mr:Nat):Int)*KK) 0)
 (zl:∀e∈es,iX E e)(hd:deafBehind d0 es=d')(hp:os.length+pend≤E.max→os.length+mr≤E.max)(hT:TC E L Q mr b os d' g' s):TC E L Q pend b os d0 g s:=by
 subst hb
 refine xz hs (fun K gs w t D cl sl m iZ hI ho hK hm=>?_) fun e=>(by cases e)
 subst hK
 have hcn:cl=none:=by cases cl<;>simp_all
 subst hcn
 have jA:=hI.sy.E8
 have av8:∀D:List (au ι),(∀r∈D,r.early)→fG au.cnt D=(kT D).length∧fG au.c4 D=0∧fG au.c3 D=0∧fG au.c2 D=0:=by
  intro D
  induction D with
  |nil=>intro _;exact⟨rfl,rfl,rfl,rfl⟩
  |cons r D ih=>
   intro hr
   obtain⟨i1,i4,i3,i2⟩:=ih fun x hx=>hr x (by simp[hx])
   have:=hr r (by simp)
   simp only[fG,List.map_cons,List.sum_cons,kT,List.filterMap_cons] at*
   cases r<;>first|exact this.elim| (simp[au.cnt,au.c4,au.c3,au.c2,au.Xe,i1,i4,i3,i2];try omega)
 obtain⟨c1,c4,c3,c2⟩:=av8 D jA
 rw[ho] at c1
 obtain⟨st,sm,ha,nB⟩:=hI.sy.cells
 have Jt:=hI.sy.CL
 rw[c1] at Jt
 have bW:st=((os.length+pend:Nat):Int)*KK∧sm=0:=by
  rw[c1] at nB
  exact nB.opened rfl
 obtain⟨w',hgo,htu,u2⟩:=h w st sm ha (fun _=>bW) Jt
 have aDN:=iX.ops zl 0 g.frame.fn g.frame.place
 obtain⟨lv,u,cl',hr,zr,UW⟩:=hI.go0 (sl:=sl) (s':=K 0) (mr:=mr) hgo htu.same (hI.sy.kW 0) (hI.sy.kC 0) (htu.block _ (Ne.symm hI.sy.ne)) (by rw[mo];exact hI.sy.Bt hI.base.fit (.inl rfl) htu zl _ _)
  (fun op aA x hx _=>by rw[((aDN op aA).2.2 x hx).2];exact⟨by simp,by simp⟩) (fun op aA=>(aDN op aA).2.1) (fun cl' hw=>by
   cases hw
   rw[c1,c4,c3,c2]
   exact⟨_,_,u2,.start⟩) (by rw[c1];exact hp Jt)
 rw[hd] at zr
 exact Ends.next (hm.trans hr) (hT _ lv w' _ D cl' sl (UW.trans iZ) zr ho (by rw[aD];exact St.le_refl _))
end
section
variable {ι:Type} {E:ep ι} {L:Nat→Option Obj} {K:Nat→St} {gs:Array Goroutine} {w w':World} {t:Trace} {D:List (au ι)} {pend d0:Nat} {cl:As} {sl:Option (Nat×Nat)}
 {Q:Machine→Outcome→World→Trace→Prop} {g g' child:Goroutine} {s iG:St} {es:Array Event}
theorem vK(f:au ι→Nat)(D:List (au ι))(r:au ι):fG f (D++[r])=fG f D+f r:=by simp[fG]
theorem Inv.spawn(h:Inv E L K gs w t D pend none g 0)(hrw:(K 0).rw=[])(bW:stepG E.P true g w= .spawn g' child w #[])(hle:iG.le (K 0)){r:au ι}{cl':As} 
 (hr:r.left=false)(fF:∀t',Deaf t' gs.size=0→ov E t' gs.size iG child r)
 (hn:r.cnt+mr=pend)(h4:r.c4=0)(h3:r.c3=0)(h2:r.c2=0)
 (iZ:(cl'=none∧r.early)∨(∃n,cl'=some (D.length,.kd,n)∧r= .closer∧CK.at E iG child n .kd)):
 ∃lv u,runT E.P (crowd gs w sl) 0=(.next (crowd lv w sl),u)∧Inv E L (fW K gs.size iG) lv w (t++u) (D++[r]) mr cl' g' 0∧0 <gs.size:=by
 have vi:=h.base.size
 have bX:=runT_crowd_spawn (P:=E.P) (sl:=sl) (i:=0) h.main (by simpa using bW)
 have e0:MemOp.ofEvents 0 g.frame.fn g.frame.place #[]= #[]:=rfl
 rw[e0] at bX
 generalize hx:({g:=0,fn:=g.frame.fn,pos:=g.frame.place,act:= .go gs.size}:MemOp)=x at bX
 generalize hy:({g:=gs.size,fn:=child.frame.fn,pos:=g.frame.place,act:= .start}:MemOp)=y at bX
 have ex:x.g=0∧x.act= .go gs.size:=by rw[←hx];exact⟨rfl,rfl⟩
 have ey:y.g=gs.size∧y.act= .start:=by rw[←hy];exact⟨rfl,rfl⟩
 have eu:((#[]:Array MemOp).push x).push y= #[x,y]:=rfl
 rw[eu] at bX
 have hq:∀op∈ #[x,y],op.act.touch?=none:=by intro op aA;simp at aA;rcases aA with rfl|rfl<;>simp[ex.2,ey.2,MemAct.touch?]
 have Q1:∀op∈ #[x,y],∀m,op.act≠ .mark m:=by intro op aA;simp at aA;rcases aA with rfl|rfl<;>simp[ex.2,ey.2]
 have hg:∀op∈ #[x,y],op.g=0∨op.g=gs.size:=by intro op aA;simp at aA;rcases aA with rfl|rfl<;>simp[ex.1,ey.1]
 have Nz:Deaf t gs.size=0:=ConcN.Deaf_absent fun i op ho e=>by have:=h.base.ops op (mem_of_getElem? ho);omega
 have zn:∀k,Deaf (t++ #[x,y]) k=Deaf t k:=fun k=>gz t k _ Q1
 have agV:∀p,Knows t 0 p→Knows (t++ #[x,y]) gs.size p:=fun p hp=>ConcN.fork_knows ex ey h.deaf Nz hp
 have nG:=h.base.fit.quiet (u:= #[x,y]) (w':=w) E.Ch h.sy.kC h.sy.lC (Nat.le_refl _) (fun _ _ _=>rfl) hq
 have hs0:iG.rw=[]:=by
  obtain⟨R,hR,_⟩:=hle
  rw[hrw] at hR
  have:=List.append_eq_nil_iff.1 (List.nil_perm.1 hR)
  exact this.1
 have A9:∀b o,iG.ro b=some o→(K 0).ro b=some o:=fun b o hb=>by
  obtain⟨R,hR,h2⟩:=hle
  rw[hrw] at hR
  have:=List.append_eq_nil_iff.1 (List.nil_perm.1 hR)
  rcases h2 b o hb with h3|h3
  ·exact h3
  rw[this.2] at h3;cases h3
 have agW:=nG.share (i:=0) (n:=gs.size) (by omega) iG hs0 A9 fun b hb p z hz hzb hzw=>by
  rcases bJ hz with ⟨_,EO⟩| ⟨_,op,hm,_,hzo⟩
  ·refine agV p (h.base.fit.rC 0 b ?_ p z EO hzb hzw)
   cases mL:iG.ro b with
   |none=>exact absurd mL hb
   |some o=>rw[A9 b o mL];simp
  rw[hq op hm] at hzo;cases hzo
 have IS:∀b,(∀j,¬(K j).knows b)→∀j,¬(fW K gs.size iG j).knows b:=fun b hb j hk=>by
  by_cases e:j=gs.size
  ·subst e;rw[aD] at hk;exact hb 0 (hle.knows hk)
  rw[aI _ _ e] at hk;exact hb j hk
 have jA:=h.sy.E8
 have oN:∀ {k z},(D++[r])[k]?=some z→(k <D.length∧D[k]?=some z)∨(k=D.length∧z=r):=fun {k z} hk=>by
  rcases Nat.lt_trichotomy k D.length with cN|e|hgt
  ·rw[List.getElem?_append_left cN] at hk;exact .inl ⟨cN,hk⟩
  ·subst e;rw[List.getElem?_append_right (Nat.le_refl _)] at hk;simp at hk;exact .inr ⟨rfl,hk.symm⟩
  rw[List.getElem?_eq_none (by simp;omega)] at hk;cases hk
 have hgs:∀k,k≠0→k <gs.size→((gs.setIfInBounds 0 g').push child)[k]?=gs[k]?:=fun k h0 cN=>by
  rw[Array.getElem?_push_lt (by simpa using cN),←Array.getElem?_eq_getElem,Array.getElem?_setIfInBounds_ne (Ne.symm h0)]
 have hgn:((gs.setIfInBounds 0 g').push child)[gs.size]?=some child:=by
  rw[Array.getElem?_push,if_pos (by simp)]
 refine⟨_,_,bX,⟨⟨agW,by simp[vi],fun k z hk=>?_,fun k hk b hb=>?_,fun op aA=>?_,h.base.same⟩,
  ⟨IS _ h.sy.kW,IS _ h.sy.kC,h.sy.lW,h.sy.lC,h.sy.ne,fun a=>(h.sy.norel a).app fun op aA=>Q1 op aA _,fun j hj p z hz hzb hzk=>?_,?_,?_,?_,h.sy.chan,h.sy.bal,?_⟩,?_,by rw[zn];exact h.deaf⟩,by omega⟩
 ·rcases oN hk with ⟨cN,jU⟩| ⟨rfl,rfl⟩
  ·obtain⟨q,hqk,aSc⟩:=h.base.ok k z jU
   exact⟨q,by rw[hgs _ (by omega) (by omega)];exact hqk,by rw[aI _ _ (by omega)];exact aSc.other fun op aA=>by rcases hg op aA with e|e<;>rw[e]<;>omega⟩
  refine⟨child,by rw[←vi];exact hgn,?_⟩
  rw[←vi,aD]
  exact fF _ (by rw[zn];exact Nz)
 ·rw[Array.size_push,Array.size_setIfInBounds] at hk
  rw[aI _ _ (by omega)] at hb
  exact h.base.far k (by omega) b hb
 ·rw[Array.size_push,Array.size_setIfInBounds]
  rcases Array.mem_append.1 aA with h'|h'
  ·have:=h.base.ops op h';omega
  rcases hg op h' with e|e<;>rw[e]<;>omega
 ·rcases bJ hz with ⟨_,EO⟩| ⟨_,op,hm,_,hzo⟩
  ·rcases hj with rfl| ⟨k,q,rfl,hk,hl⟩
   ·exact(h.sy.plain 0 (.inl rfl) p z EO hzb hzk).app _
   rcases oN hk with ⟨_,jU⟩| ⟨rfl,rfl⟩
   ·exact(h.sy.plain (k+1) (.inr ⟨k,q,rfl,jU,hl⟩) p z EO hzb hzk).app _
   rw[←vi];exact agV p (h.sy.plain 0 (.inl rfl) p z EO hzb hzk)
  rw[hq op hm] at hzo;cases hzo
 ·have OD:=h.sy.said
  rcases iZ with ⟨rfl,_⟩| ⟨n,rfl,_,_⟩
  ·intro p z hz hzb hzk
   rcases bJ hz with ⟨_,EO⟩| ⟨_,op,hm,_,hzo⟩
   ·exact(OD p z EO hzb hzk).app _
   rw[hq op hm] at hzo;cases hzo
  intro _ p z hz hzb hzk
  rcases bJ hz with ⟨_,EO⟩| ⟨_,op,hm,_,hzo⟩
  ·rw[←vi];exact agV p (OD p z EO hzb hzk)
  rw[hq op hm] at hzo;cases hzo
 ·obtain⟨st,sm,ha,nB⟩:=h.sy.cells
  refine⟨st,sm,ha,?_⟩
  rw[vK,vK,vK,vK,h4,h3,h2,show fG au.cnt D+r.cnt+mr=fG au.cnt D+pend by omega]
  rcases iZ with ⟨rfl,_⟩| ⟨n,rfl,_,_⟩
  ·exact nB
  have z:∀(f:au ι→Nat),(∀r:au ι,r.early→f r=0)→fG f D=0:=fun f hf=>by
   unfold fG
   rw[List.sum_eq_zero_iff_forall_eq_nat]
   intro a u2
   obtain⟨q,Eb,rfl⟩:=List.mem_map.1 u2
   exact hf q (jA q Eb)
  have z4:=z au.c4 fun r hr=>by cases r<;>first|rfl|exact hr.elim
  have z3:=z au.c3 fun r hr=>by cases r<;>first|rfl|exact hr.elim
  have z2:=z au.c2 fun r hr=>by cases r<;>first|rfl|exact hr.elim
  obtain⟨rfl,rfl⟩:=nB.opened rfl
  rw[z4,z3,z2]
  exact .kd
 ·rw[vK];have:=h.sy.CL;omega
 ·rcases iZ with ⟨rfl,SS⟩| ⟨n,rfl,rfl,ql⟩
  ·intro z hz
   rcases List.mem_append.1 hz with h'|h'
   ·exact jA z h'
   simp at h';subst h';exact SS
  refine⟨by simp,fun k hk=>?_,by rw[zn,←vi];exact Nz,⟨child,by rw[←vi];exact hgn,by rw[←vi,aD];exact ql⟩,fun⟨_,e⟩=>(by cases e)⟩
  rcases oN hk with ⟨_,jU⟩| ⟨e,_⟩
  ·exact(jA _ (List.mem_of_getElem? jU)).elim
  exact e
 rw[Array.getElem?_push_lt (by simp;omega),←Array.getElem?_eq_getElem,Array.getElem?_setIfInBounds_self_of_lt (by omega)]
theorem JW{os:List ι}{o:ι}(hs:g.status= .running)(hrw:s.rw=[])(bW:∀w,aS s w→stepG E.P true g w= .spawn g' child w #[])(hw:e9 E.P false (E.JK o) child s)
 (hT:TC E L Q 0 false (os++[o]) 0 g' s):TC E L Q 1 false os 0 g s:=by
 refine xz hs (fun K gs w t D cl sl m iZ hI ho hK hm=>?_) fun e=>(by cases e)
 subst hK
 have hcn:cl=none:=by cases cl<;>simp_all
 subst hcn
 obtain⟨tr,iG,hle,htr⟩:=hw
 obtain⟨lv,u,hr,zr,h0⟩:=hI.spawn (sl:=sl) (r:= .work o tr) (cl':=none) (mr:=0) hrw (bW w (hI.base.fit.jV 0)) hle rfl (fun t' hd=>⟨hd,htr⟩) rfl rfl rfl rfl (.inl ⟨rfl,trivial⟩)
 exact Ends.next (hm.trans hr) (hT _ lv w _ _ none sl rfl zr (by simp[kT,List.filterMap_append,au.Xe] at ho ⊢;exact ho) (by rw[aI _ _ (by omega)];exact St.le_refl _))
theorem JX{os:List ι}(hs:g.status= .running)(hrw:s.rw=[])(bW:∀w,aS s w→stepG E.P true g w= .spawn g' child w #[])(hw:E.closes s child)
 (hT:TC E L Q 0 true os 0 g' s):TC E L Q 0 false os 0 g s:=by
 refine xz hs (fun K gs w t D cl sl m iZ hI ho hK hm=>?_) fun e=>(by cases e)
 subst hK
 have hcn:cl=none:=by cases cl<;>simp_all
 subst hcn
 obtain⟨n,hn⟩:=hw
 obtain⟨lv,u,hr,zr,h0⟩:=hI.spawn (sl:=sl) (iG:=K 0) (r:= .closer) (cl':=some (D.length,.kd,n)) (mr:=0) hrw (bW w (hI.base.fit.jV 0)) (St.le_refl _) rfl (fun t' hd=>trivial) rfl rfl rfl rfl (.inr ⟨n,rfl,rfl,hn⟩)
 exact Ends.next (hm.trans hr) (hT _ lv w _ _ _ sl rfl zr (by rw[kT,List.filterMap_append];simp only[List.filterMap_cons,au.Xe,List.filterMap_nil,List.append_nil];exact ho) (by rw[aI _ _ (by omega)];exact St.le_refl _))
end
section
variable {ι:Type} {E:ep ι} {Q:Machine→Outcome→World→Trace→Prop} {g:Goroutine} {s s':St}
theorem O9{L:Nat→Option Obj}(hs:g.status= .running)(eg:E.Wg≠E.Ch)
 (hW:(E.Wg,wgBlock E.ty 0 0)∈s.rw)(hC:∃tm,(E.Ch,Obj.chan 0 #[] false 0 0 tm)∈s.rw)
 (hle:s'.le s)(hkW:¬s'.knows E.Wg)(hkC:¬s'.knows E.Ch)(kY:∀b,s'.ju b→L b=none)
 (hL:∀b o,L b=some o→s.has b o∧b≠E.Wg∧b≠E.Ch)
 (hT:TC E L Q 0 false [] 0 g s'):TL E.P eT (fun _=>none) (Calm E.os E.out) Q g s:=by
 intro K gs w t q sl hLv h0 aSL hd ⟨au6,af0⟩
 have hLv:=hLv.le aSL
 have hs0:(fW K 0 s) 0=s:=aD _ _ _
 have p6:=hLv.fit.jV 0
 rw[hs0] at p6
 obtain⟨tm,hC⟩:=hC
 have hWw:=p6.rw _ _ hW
 have hCw:=p6.rw _ _ hC
 have hex:∀i,i <q.length→∃d,∃x,gs[i+1]?=some x∧QuitsD E.P (q.getD i 0) d x∧Deaf t (i+1)=d∧eT t (i+1):=fun i hi=>by
  obtain⟨x,d,h1,h2,h3,h4⟩:=hLv.ok i _ (List.getElem?_eq_getElem hi)
  exact⟨d,x,h1,by rw[List.getD_eq_getElem?_getD,List.getElem?_eq_getElem hi];exact h2,h3,h4⟩
 let D:List (au ι):=(List.range q.length).map fun i=>au.leave (q.getD i 0) (Deaf t (i+1)) false
 have hD:∀i r,D[i]?=some r→i <q.length∧r=au.leave (q.getD i 0) (Deaf t (i+1)) false:=fun i r hi=>by
  simp only[D,List.getElem?_map] at hi
  obtain⟨j,hj,rfl⟩:=Option.map_eq_some_iff.1 hi
  obtain⟨cN,rfl⟩:=List.getElem?_eq_some_iff.1 hj
  simp only[List.length_range] at cN
  simp only[List.getElem_range]
  exact⟨cN,trivial⟩
 have jz:∀r∈D,∃a b,r=au.leave a b false:=fun r hr=>by
  obtain⟨i,hi⟩:=List.getElem?_of_mem hr
  exact⟨_,_,(hD i r hi).2⟩
 have hzero:∀f:au ι→Nat,(∀a b,f (.leave a b false)=0)→fG f D=0:=fun f hf=>by
  unfold fG
  rw[List.sum_eq_zero_iff_forall_eq_nat]
  intro x hx
  obtain⟨r,hr,rfl⟩:=List.mem_map.1 hx
  obtain⟨a,b,rfl⟩:=jz r hr
  exact hf a b
 let K':Nat→St:=fun j=>if j=0 then s' else ⟨fun _=>none,[]⟩
 have Yl:K' 0=s':=by simp[K']
 have hKn:∀j,j≠0→K' j=⟨fun _=>none,[]⟩:=fun j hj=>by simp[K',hj]
 have none:∀j b,j≠0→¬(K' j).knows b:=fun j b hj hk=>by
  rw[hKn j hj] at hk
  rcases hk with hk| ⟨o,ho⟩
  ·exact hk rfl
  cases ho
 have Hl:Fit (fun _=>Option.none) K' w t:=hLv.fit.le fun j=>by
  by_cases e:j=0
  ·subst e;rw[Yl,hs0];exact hle
  rw[hKn j e];exact⟨(fW K 0 s j).rw,by simp,fun b o hb=>(by cases hb)⟩
 have agW:Fit L K' w t:=by
  refine⟨fun b o hl=>p6.has (hL b o hl).1,fun i b ho=>?_,Hl.jV,Hl.sep,Hl.perm,Hl.rC,Hl.old,Hl.clean,fun p x b hx hk hb=>⟨?_,(Hl.sync p x b hx hk hb).2⟩⟩
  ·by_cases e:i=0
   ·subst e;rw[Yl] at ho;exact kY b ho
   exact absurd (.inr ho) (none i b e)
  cases hl:L b with
  |none=>rfl
  |some o=>
   have:=(hLv.fit.sync p x b hx hk hb).2 0
   rw[hs0] at this
   rcases(hL b o hl).1 with h1|h1
   ·exact absurd (.inl (by rw[h1];simp)) this
   exact absurd (.inr ⟨o,h1⟩) this
 have hLb:∀b,(b=E.Wg∨b=E.Ch)→L b=Option.none:=fun b hb=>by
  cases hl:L b with
  |none=>rfl
  |some o=>
   rcases hb with e|e
   ·exact absurd e (hL b o hl).2.1
   exact absurd e (hL b o hl).2.2
 have hKk:∀b,¬s'.knows b→∀j,¬(K' j).knows b:=fun b hb j=>by
  by_cases e:j=0
  ·subst e;rw[Yl];exact hb
  exact none j b e
 have apJ:∀p x,touchAt t p=some x→blk x.loc=some E.Wg→Knows t 0 p:=fun p x hx hb=>hLv.fit.perm 0 E.Wg (by rw[hs0];exact⟨_,hW⟩) p x hx hb
 have aBM:∀p x,touchAt t p=some x→E.At x→Knows t 0 p:=fun p x hx hb=>hb.elim (apJ p x hx) fun hb=>hLv.fit.perm 0 E.Ch (by rw[hs0];exact⟨_,hC⟩) p x hx hb
 refine hT K' gs w t D Option.none sl rfl ⟨⟨agW,by simp[D,hLv.size],fun i r hi=>?_,fun i hi b=>?_,hLv.ops,af0⟩,
  ⟨hKk _ hkW,hKk _ hkC,hLb _ (.inl rfl),hLb _ (.inr rfl),eg,au6,fun j hj p x hx hb _=>?_,fun p x hx hb _=>apJ p x hx hb,⟨0,0,hWw,?_⟩,?_,⟨0,0,tm,hCw⟩,fun a b c hx=>?_,fun r hr=>?_⟩,h0,hd⟩ ?_ (by rw[Yl];exact St.le_refl _)
 ·obtain⟨cN,rfl⟩:=hD i r hi
  obtain⟨d,x,h1,h2,h3,h4⟩:=hex i cN
  exact⟨x,h1,hKn _ (by omega),by rw[h3];exact h2,rfl,(fun e=>(by cases e)),fun _=>h4⟩
 ·exact none i b (by have:=hLv.size;omega)
 ·rcases hj with rfl| ⟨k,r,rfl,hk,hl⟩
  ·exact aBM p x hx hb
  obtain⟨_,rfl⟩:=hD k r hk;cases hl
 ·rw[hzero au.cnt fun _ _=>rfl,hzero au.c4 fun _ _=>rfl,hzero au.c3 fun _ _=>rfl,hzero au.c2 fun _ _=>rfl]
  have:=Md.start (mx:=E.max) (n:=0)
  simpa using this
 ·rw[hzero au.cnt fun _ _=>rfl];omega
 ·rw[hCw] at hx
  simp only[Option.some.injEq,Obj.chan.injEq] at hx
  omega
 ·obtain⟨a,b,rfl⟩:=jz r hr;rfl
 unfold kT
 rw[List.filterMap_eq_nil_iff]
 intro r hr
 obtain⟨a,b,rfl⟩:=jz r hr;rfl
end
theorem D6(os:Os)(out:Array (Nat×ByteArray)):Za (Calm os out) where
 grow:=fun _ _ _ _ h hu=>⟨fun a=>(h.1 a).app fun op aA=>hu op aA a,h.2⟩
 drawn:=fun _ _ _ _ h=>h
 le:=fun _ _ _ _ h _=>h
 own:=fun _ _ _ _ _ _ _ h ht hu=>⟨fun a=>(h.1 a).app fun op aA=>hu op aA a,ht.os.trans h.2.1,ht.output.trans h.2.2⟩
def T0(P:Program)(os:Os)(out:Array (Nat×ByteArray))(Post:Value→World→Prop):Goroutine→St→Prop:=TL P eT (fun _=>none) (Calm os out) (Good P Post)
theorem sV(P:Program)(os:Os)(out:Array (Nat×ByteArray))(Post:Value→World→Prop):Closed P true (T0 P os out Post):=JQ Eh (D6 os out) _
theorem Zs{os:Os}{out:Array (Nat×ByteArray)}{Post:Value→World→Prop}{s:St}(hs:g.status= .running)
 (bW:∀w,aS s w→w.os=os→w.output=out→∃v w' es s',stepG P true g w= .ended (.done v) w' es∧Post v w'∧Trans s w s' w' es):T0 P os out Post g s:=by
 refine Mr Eh (D6 os out) hs fun K gs w t q sl m hL h0 hK hd hi hm hmg=>?_
 subst hK
 obtain⟨v,w',es,s',hgo,hp,ht⟩:=bW w (hL.fit.jV 0) hi.2.1 hi.2.2
 have hr:=ConcN.runT_crowd_ended (P:=P) (sl:=sl) (i:=0) h0 (by simpa using hgo)
 have nG:=hL.fit.own ht g.frame.fn g.frame.place
 generalize hu:MemOp.ofEvents 0 g.frame.fn g.frame.place es=u at hr nG
 have Lc:∀op∈u,op.g=0:=by rw[←hu];exact fun op aA=>Go.ConcR.g_of_ofEvents op aA
 refine⟨0,m,.done v,w',t++u,by simp[runNT,hm,hr],rfl,by simp[step,hm,hr],v,rfl,hp,nG.clean,fun i k hk eg hc=>?_,⟨fun x hx=>?_,by rw[hmg.2];rfl⟩,fun i x hx eg=>?_⟩
 ·obtain⟨op,ho,bf2⟩:=Option.map_eq_some_iff.1 hk
  cases k with
  |zero=>exact absurd rfl eg
  |succ k=>
   have cN:op.g <gs.size:=by
    rcases Array.mem_append.1 (mem_of_getElem? ho) with h'|h'
    ·exact hL.ops op h'
    rw[Lc op h',hL.size];omega
   have hkq:k <q.length:=by have:=hL.size;omega
   obtain⟨_,_,_,_,_,bY⟩:=hL.ok k _ (List.getElem?_eq_getElem hkq)
   exact(bY.other fun op aA=>by rw[Lc op aA];omega) i hk hc
 ·rw[hmg.1] at hx
  obtain⟨j,hj⟩:=List.getElem?_of_mem hx
  rw[List.getElem?_drop,Array.getElem?_toList] at hj
  have hjq:j <q.length:=by have:=lt_size hj;have:=hL.size;omega
  obtain⟨y,d,hy,hq,_⟩:=hL.ok j _ (List.getElem?_eq_getElem hjq)
  rw[Nat.add_comm] at hj
  rw[hj] at hy
  obtain rfl:=Option.some.inj hy
  exact⟨_,hq.leaves⟩
 rw[hmg.1] at hx
 cases i with
 |zero=>exact absurd rfl eg
 |succ j=>
  have hjq:j <q.length:=by have:=lt_size hx;have:=hL.size;omega
  obtain⟨y,d,hy,hq,hdd,_⟩:=hL.ok j _ (List.getElem?_eq_getElem hjq)
  rw[hx] at hy
  obtain rfl:=Option.some.inj hy
  refine⟨q[j],?_⟩
  have e:(t++u).deaf (j+1) (t++u).size=d:=by
   have:=iq t u (g:=j+1) fun op aA=>by rw[Lc op aA];omega
   unfold Deaf at this hdd
   rw[this];exact hdd
  rw[e]
  exact hq.hears m.world
theorem ac8{Post:Value→World→Prop}{s:St}{w:World}(ha:aS s w)(h:T0 P w.os w.output Post g s):Ends P (Good P Post) (solo g w) #[]:=by
 rw[solo_eq_crowd]
 have IM:∀p x,touchAt #[] p=some x→False:=fun p x hx=>by simp[touchAt,Trace.act?] at hx
 have hn:∀i,i≠0→∀b,¬((if i=0 then s else ⟨fun _=>none,[]⟩:St)).knows b:=fun i hi b hk=>by
  rw[if_neg hi] at hk
  rcases hk with hk| ⟨o,ho⟩
  ·exact hk rfl
  cases ho
 refine h (fun j=>if j=0 then s else ⟨fun _=>none,[]⟩) #[g] w #[] [] none ⟨⟨(fun _ _ e=>(by cases e)),fun _ _ _=>rfl,fun i=>?_,fun i j b IQ ho hk=>?_,fun _ _ _ p x hx=>(IM p x hx).elim,fun _ _ _ p x hx=>(IM p x hx).elim,
  fun p x _ hx=>(IM p x hx).elim,(fun said ⟨i,j,_,⟨a,b,h1,_⟩,_⟩=>by simp[Trace.act?] at h1),fun p x _ hx=>(IM p x hx).elim⟩,rfl,fun i n hi=>by simp at hi,fun i b hi hk=>hn i hi b hk,by simp⟩ rfl (by simp only[if_true];exact St.le_refl _) rfl ⟨fun a i=>by simp[Trace.act?],rfl,rfl⟩
 ·by_cases e:i=0
  ·simp only[e,if_true];exact ha
  simp only[if_neg e];exact⟨(fun _ _ e=>(by cases e)),(fun _ _ e=>(by cases e)),by simp,(fun _ _ e=>(by cases e))⟩
 by_cases e:j=0
 ·exact hn i (fun e'=>IQ (e'.trans e.symm)) b (.inr ho)
 exact hn j e b hk
section
variable {ι:Type} {E:ep ι} {L:Nat→Option Obj} {pend d0:Nat} {Q:Machine→Outcome→World→Trace→Prop} {g g':Goroutine} {s:St} {os:List ι}
theorem Wu(hs:g.status= .running)(bW:∀w,E.live w→stepG E.P true g w= .go g' w #[])(hT:TC E L Q pend false os d0 g' s):TC E L Q pend false os d0 g s:=
 Fo (es:= #[]) (mr:=pend) hs rfl (fun w st sm ha hb _=>⟨w,bW w ⟨st,sm,ha⟩,eY.refl w,by obtain⟨rfl,rfl⟩:=hb rfl;exact ha⟩) (by simp) rfl id hT
theorem alh(hs:g.status= .running)(bW:∀w,E.live w→stepG E.P true g w= .go g' w #[said (.read (smA E.Wg))])(hT:TC E L Q pend false os d0 g' s):TC E L Q pend false os d0 g s:=by
 refine xz hs (fun K gs w t D cl sl m iZ hI ho hK hm=>?_) fun e=>(by cases e)
 subst hK
 have hcn:cl=none:=by cases cl<;>simp_all
 subst hcn
 obtain⟨st,sm,ha,_⟩:=hI.sy.cells
 have hgo:=bW w ⟨st,sm,ha⟩
 have e1:MemOp.ofEvents 0 g.frame.fn g.frame.place #[said (.read (smA E.Wg))]= #[{g:=0,fn:=g.frame.fn,pos:=g.frame.place,act:= .mark (.read (smA E.Wg))}]:=by rw[ofEvents_eq];simp[said,Go.ConcR.ofEvent_mk]
 have au0:∀op∈MemOp.ofEvents 0 g.frame.fn g.frame.place #[said (.read (smA E.Wg))],op.g=0∧op.act= .mark (.read (smA E.Wg)):=by
  rw[e1];intro op aA;simp only[List.mem_toArray,List.mem_singleton] at aA;subst aA;exact⟨rfl,rfl⟩
 have htc:∀op∈MemOp.ofEvents 0 g.frame.fn g.frame.place #[said (.read (smA E.Wg))],∀x,op.act.touch?=some x→x=⟨.cell (smA E.Wg),false,.said⟩:=fun op aA x hx=>by
  rw[(au0 op aA).2] at hx;simp only[MemAct.touch?,Option.some.injEq] at hx;exact hx.symm
 obtain⟨lv,u,cl',hr,zr,UW⟩:=hI.go0 (sl:=sl) (s':=K 0) (mr:=pend) hgo ⟨rfl,rfl⟩ (hI.sy.kW 0) (hI.sy.kC 0) rfl (by
  rw[mo]
  refine hI.base.fit.beside E.Wg 0 hI.sy.kW hI.sy.lW (lt_size ha) (Nat.le_refl _) (fun _ _ _=>rfl) (fun op aA=>(au0 op aA).1) fun op aA x hx=>?_
  obtain rfl:=htc op aA x hx
  refine⟨rfl,fun sd p a u2 hc=>?_⟩
  have hl:blk a.loc=some E.Wg:=by rw[hc.1];rfl
  rcases hc.2.2.2 with h3|h3|h3
  ·exact hI.sy.plain 0 (.inl rfl) p a u2 (.inl hl) h3
  ·cases h3
  ·exact hI.sy.said p a u2 hl h3.2.1)
  (fun op aA x hx _=>by obtain rfl:=htc op aA x hx;exact⟨by simp,fun _=>rfl⟩) (fun op aA a=>by rw[(au0 op aA).2];simp) (hI.Ig rfl) hI.sy.CL
 exact Ends.next (hm.trans hr) (hT _ lv w _ D cl' sl (UW.trans iZ) zr ho (by rw[aD];exact St.le_refl _))
end
abbrev Mf:=Option Value×Option Value
abbrev jJ:Mf:=(none,none)
def Ii:Mf→Nat→Option Value
 | (a,_),0=>a
 | (_,b),1=>b
 |_,_=>none
theorem Sf(off:Nat):Ii jJ off=none:=by
 match off with
 |0=>rfl
 |1=>rfl
 |_+2=>rfl
def Oc:Mf→Nat→Value→Mf
 | (_,b),0,v=>(some v,b)
 | (a,_),1,v=>(a,some v)
 |c,_,_=>c
inductive RH(α:Type) where
 |ok (a:α)
 |halt (h:Halt)
structure VO(α:Type) where
 r:RH α
 ws:List (Nat×Value)
 es:List Event
 bs:List Nat
def u7(P:Program)(ty:TypeId):Sem α→Mf→Option (VO α)
 | .pure a,_=>some ⟨.ok a,[],[],[]⟩
 | .load m a k,c=>match a.spot with
  |some _=>none
  |none=>match Ii c a.off with
   |some v=>match u7 P ty (k v) c with
    |some o=>some ⟨o.r,o.ws,⟨.cell a,false,m== .atomic⟩::o.es,a.block::o.bs⟩
    |none=>none
   |none=>none
 | .store m a v k,c=>match a.spot with
  |some _=>none
  |none=>bif single v then (match Ii c a.off with
   |some _=>match u7 P ty k (Oc c a.off v) with
    |some o=>some ⟨o.r,(a.off,v)::o.ws,⟨.cell a,true,m== .atomic⟩::o.es,a.block::o.bs⟩
    |none=>none
   |none=>none) else none
 | .shape r k,c=>match u7 P ty (k (some (ty,2))) c with
  |some o=>some ⟨o.r,o.ws,o.es,r::o.bs⟩
  |none=>none
 | .frozen a k,c=>match u7 P ty (k false) c with
  |some o=>some ⟨o.r,o.ws,o.es,a.block::o.bs⟩
  |none=>none
 | .program k,c=>u7 P ty (k P) c
 | .mark m k,c=>match u7 P ty k c with
  |some o=>some ⟨o.r,o.ws,⟨.mark m,false,true⟩::o.es,o.bs⟩
  |none=>none
 | .halt h,_=>some ⟨.halt h,[],[],[]⟩
 |_,_=>none
def mC(ty:TypeId)(W:Nat)(w:World)(c:Mf):Prop:=∃a b,w.heap[W]?=some (.cells #[a,b] ty)∧(∀x,c.1=some x→a=x)∧∀x,c.2=some x→b=x
theorem mC.adm{w:World}{c:Mf}(h:mC ty W w c):∃a b,w.heap[W]?=some (.cells #[a,b] ty):=by
 obtain⟨a,b,h,_⟩:=h
 exact⟨a,b,h⟩
def MS(W:Nat)(w:World)(ws:List (Nat×Value)):World:=ws.foldl (fun w x=>w.setCell ⟨W,x.1,none⟩ x.2) w
def RH.to(w:World):RH α→Result α
 | .ok a=> .ok a w
 | .halt h=> .halt h w
theorem Ih{w:World}{c:Mf}(h:mC ty W w c){v:Value}(hv:Ii c off=some v):w.cell? ⟨W,off,none⟩=some v:=by
 obtain⟨p,q,h,h1,h2⟩:=h
 unfold Ii at hv
 split at hv<;>try (cases hv;done)
 ·rw[←h1 _ hv];simp[World.cell?,h]
 rw[←h2 _ hv];simp[World.cell?,h]
theorem abj{w:World}{c:Mf}(h:mC ty W w c){u v:Value}(hv:Ii c off=some u):mC ty W (w.setCell ⟨W,off,none⟩ v) (Oc c off v):=by
 obtain⟨p,q,h,h1,h2⟩:=h
 unfold Ii at hv
 split at hv<;>try (cases hv;done)
 ·exact⟨v,q,by simp[World.setCell,Array.getElem?_modify,h],by simp[Oc],fun x hx=>h2 x hx⟩
 exact⟨p,v,by simp[World.setCell,Array.getElem?_modify,h],fun x hx=>h1 x hx,by simp[Oc]⟩
theorem acV{w:World}{a b:Value}(h:w.heap[W]?=some (.cells #[a,b] ty)) (off:Nat) (s:Option Nat):w.frozen? ⟨W,off,s⟩=false:=by
 simp[World.frozen?,h]
theorem My(x:Sem α):∀ {c:Mf} {o:VO α} {w:World} (es:Array Event),u7 P ty x c=some o→(∀b∈o.bs,b=W)→((c=jJ∧o.bs=[])∨mC ty W w c)→x.runT P w es=(o.r.to (MS W w o.ws),es++o.es.toArray):=by
 induction x with
 |pure a=>intro c o w es h hb hc;simp only[u7,Option.some.injEq] at h;subst h;simp[Sem.runT,RH.to,MS]
 |halt a=>intro c o w es h hb hc;simp only[u7,Option.some.injEq] at h;subst h;simp[Sem.runT,RH.to,MS]
 |load m a k ih=>
  intro c o w es h hb hc
  simp only[u7] at h
  split at h<;>try (cases h;done)
  rename_i hs
  split at h<;>try (cases h;done)
  rename_i v hv
  split at h<;>try (cases h;done)
  rename_i o1 h1
  simp only[Option.some.injEq] at h;subst h
  have e:a=⟨W,a.off,none⟩:=by
   have:=hb a.block (by simp)
   rcases a with ⟨x,y,z⟩
   simp only at hs this
   subst hs this;rfl
  have tB:mC ty W w c:=hc.elim (fun hh=>by rw[hh.1] at hv;rw[Sf] at hv;cases hv) id
  have Hp:w.cell? a=some v:=by rw[e];exact Ih tB hv
  simp only[Sem.runT,Hp]
  rw[ih v _ h1 (fun b hm=>hb b (by simp[hm])) (.inr tB)]
  simp
 |store m a v k ih=>
  intro c o w es h hb hc
  simp only[u7] at h
  split at h<;>try (cases h;done)
  rename_i hs
  cases hsg:single v with
  |false=>rw[hsg] at h;cases h
  |true=>
  rw[hsg] at h;simp only[cond_true] at h
  split at h<;>try (cases h;done)
  rename_i u hu
  split at h<;>try (cases h;done)
  rename_i o1 h1
  simp only[Option.some.injEq] at h;subst h
  have e:a=⟨W,a.off,none⟩:=by
   have:=hb a.block (by simp)
   rcases a with ⟨x,y,z⟩
   simp only at hs this
   subst hs this;rfl
  have tB:mC ty W w c:=hc.elim (fun hh=>by rw[hh.1] at hu;rw[Sf] at hu;cases hu) id
  have Hp:w.cell? a=some u:=by rw[e];exact Ih tB hu
  have hfz:w.frozen? a=false:=by
   obtain⟨p,q,XY⟩:=tB.adm
   rw[e];exact acV XY _ _
  have pH:=abj (v:=v) tB hu
  have key:(Sem.store m a v k).runT P w es=k.runT P (w.setCell a v) (es.push ⟨.cell a,true,m== .atomic⟩):=by
   cases v<;>first| (cases hsg;done)|simp[Sem.runT,Hp,hfz]
  rw[key,ih _ h1 (fun b hm=>hb b (by simp[hm])) (.inr (by rw[e];exact pH))]
  simp only[MS,List.foldl_cons]
  rw[←e]
  simp
 |shape r k ih=>
  intro c o w es h hb hc
  simp only[u7] at h
  split at h<;>try (cases h;done)
  rename_i o1 h1
  simp only[Option.some.injEq] at h;subst h
  have e:r=W:=hb r (by simp)
  have tB:mC ty W w c:=hc.elim (fun hh=>by cases hh.2) id
  have hsh:w.shape? r=some (ty,2):=by
   obtain⟨p,q,XY⟩:=tB.adm
   rw[e];simp[World.shape?,XY]
  simp only[Sem.runT,hsh]
  exact ih _ _ h1 (fun b hm=>hb b (by simp[hm])) (.inr tB)
 |frozen a k ih=>
  intro c o w es h hb hc
  simp only[u7] at h
  split at h<;>try (cases h;done)
  rename_i o1 h1
  simp only[Option.some.injEq] at h;subst h
  have e:a.block=W:=hb a.block (by simp)
  have tB:mC ty W w c:=hc.elim (fun hh=>by cases hh.2) id
  have hsh:w.frozen? a=false:=by
   obtain⟨p,q,XY⟩:=tB.adm
   rcases a with ⟨x,y,z⟩
   simp only at e;subst e;exact acV XY _ _
  simp only[Sem.runT,hsh]
  exact ih _ _ h1 (fun b hm=>hb b (by simp[hm])) (.inr tB)
 |program k ih=>
  intro c o w es h hb hc
  simp only[u7] at h
  simp only[Sem.runT]
  exact ih _ _ h hb hc
 |mark m k ih=>
  intro c o w es h hb hc
  simp only[u7] at h
  split at h<;>try (cases h;done)
  rename_i o1 h1
  simp only[Option.some.injEq] at h;subst h
  simp only[Sem.runT]
  rw[ih _ h1 (fun b hm=>hb b hm) hc]
  simp
 |new o k ih=>intro c o w es h;cases h
 |freeze a n k ih=>intro c o w es h;cases h
 |getObj r k ih=>intro c o w es h;cases h
 |setObj r o k ih=>intro c o w es h;cases h
 |choose q k ih=>intro c o w es h;cases h
 |sys q k ih=>intro c o w es h;cases h
def axp(fr:Frame):Option Frame:=
 match fr.todo with
 | []=>match fr.roundOf with
  |none=>some {fr with mode:= .returning}
  |some _=>none
 | .code .ret::_=>match fr.roundOf with
  |none=>some {fr with mode:= .returning}
  |some _=>none
 | .code .skip::k=>some {fr with todo:=k}
 | .code (.label _)::k=>some {fr with todo:=k}
 | .inBlock _::k=>some {fr with todo:=k}
 | .inScope _::k=>some {fr with todo:=k}
 | .code (.seq a b)::k=>some {fr with todo:= .code a:: .code b::k}
 | .code (.cond c x y)::k=>match fr.eval c with
  | .bool b=>some {fr with todo:= .code (if b then x else y)::k}
  |_=>none
 | .code (.block id body)::k=>some {fr with todo:= .code body:: .inBlock id::k}
 | .code (.loop body)::k=>some {fr with todo:= .code body:: .inLoop body::k}
 | .inLoop body::k=>some {fr with todo:= .code body:: .inLoop body::k}
 | .code (.scope body)::k=>some {fr with todo:= .code body:: .inScope body::k}
 | .code (.exit id)::k=>match exitTo id k with
  |some k'=>some {fr with todo:=k'}
  |none=>none
 | .code (.region _ ops false)::k=>some {fr with todo:= .inRegion ops (List.range ops.size)::k}
 | .inRegion _ []::k=>some {fr with todo:=k}
 | .inRegion ops (i::_)::_=>if ((ops[i]?).map (Region.wanted · (yielded ops fr.tmps))).getD false then none else some (fr.finish undef)
 |_=>none
theorem aoi(hm:fr.mode= .run)(h:axp fr=some oe)(w:World):stepG P main (G fr cs) w= .go (G oe cs) w #[]:=by
 rcases fr with ⟨fn,tmps,todo,defers,mode,kind,ro⟩
 simp only at hm;subst hm
 unfold axp at h
 simp only at h
 split at h
 all_goals try (cases h;done)
 all_goals try (simp only[Option.some.injEq] at h;subst h;simp[G,stepG,stepG.exec];done)
 ·split at h<;>try (cases h;done)
  simp only[Option.some.injEq] at h;subst h;simp[G,stepG,stepG.exec]
 ·split at h<;>try (cases h;done)
  simp only[Option.some.injEq] at h;subst h;simp[G,stepG,stepG.exec]
 ·split at h<;>try (cases h;done)
  rename_i b hb
  simp only[Option.some.injEq] at h;subst h
  simp only[G,stepG,stepG.exec,hb]
 ·split at h<;>try (cases h;done)
  rename_i b hb
  simp only[Option.some.injEq] at h;subst h
  simp[G,stepG,stepG.exec,hb]
 split at h<;>try (cases h;done)
 rename_i hw
 simp only[Option.some.injEq] at h;subst h
 simp only[G,stepG,stepG.exec,hw]
 simp
inductive OV where
 |go (fr:Frame) (iI:List Frame)
 |ret (v:Value)
 |asE
 |block
abbrev OVs:=Option (OV×List (Nat×Value)×List Event×List Nat)
def uX(P:Program)(fn:FuncId)(es:List Event):List Event:=(seen P fn es.toArray).toList
def XP:CallKind→Bool
 | .early=>true
 |_=>false
def aei(P:Program)(ty:TypeId)(c:Mf)(fr:Frame)(iI:List Frame):OVs:=
 match fr.todo with
 | .inRegion ops (i::_)::_=>bif ((ops[i]?).map (Region.wanted · (yielded ops fr.tmps))).getD false&& !(XP fr.kind) then (match fr.roundOf,fr.oper? with
  |none,some o=>match u7 P ty (execOp fr.eval o) c with
   |some ⟨.ok (.value v),ws,es,bs⟩=>some (.go (fr.finish v) iI,ws,uX P fr.fn es,bs)
   |some ⟨.ok .skip,ws,es,bs⟩=>some (.go (fr.finish undef) iI,ws,uX P fr.fn es,bs)
   |some ⟨.ok (.enter f args),ws,es,bs⟩=>some (.go (Frame.enter P f args .normal) (fr::iI),ws,uX P fr.fn es,bs)
   |some ⟨.ok (.defer d),ws,es,bs⟩=>some (.go ({fr with defers:=d::fr.defers}.finish undef) iI,ws,uX P fr.fn es,bs)
   |some ⟨.halt .blocked,ws,_,bs⟩=>some (.block,ws,[],bs)
   |_=>none
  |_,_=>none) else none
 |_=>none
def aCO:Target→Bool
 | .fn .. =>true
 |_=>false
def arZ(P:Program)(ty:TypeId)(c:Mf)(fr:Frame)(iI:List Frame):OVs:=
 match fr.defers with
 | []=>match P.funcs[fr.fn]? with
  |some fn=>match u7 P ty (results fn fr.tmps) c with
   |some ⟨.ok v,ws,es,bs⟩=>match iI with
    |q::gE=>match fr.kind with
     | .normal=>some (.go (q.finish v) gE,ws,uX P fr.fn es,bs)
     | .deferred=>match q.mode with
      | .returning=>some (.go q gE,ws,uX P fr.fn es,bs)
      |_=>none
     |_=>none
    | []=>match fr.kind with
     | .normal=>some (.ret v,ws,uX P fr.fn es,bs)
     | .deferred=>some (.asE,ws,uX P fr.fn es,bs)
     |_=>none
   |_=>none
  |none=>none
 |d::ds=>bif aCO d.target then (match u7 P ty (invoke d.target d.args) c with
  |some ⟨.ok (.value _),ws,es,bs⟩=>some (.go {fr with defers:=ds} iI,ws,uX P fr.fn es,bs)
  |some ⟨.ok (.enter f args),ws,es,bs⟩=>some (.go (Frame.enter P f args .deferred) ({fr with defers:=ds}::iI),ws,uX P fr.fn es,bs)
  |_=>none) else none
def Qa(P:Program)(ty:TypeId)(c:Mf)(fr:Frame)(iI:List Frame):OVs:=
 match fr.mode with
 | .run=>match axp fr with
  |some oe=>some (.go oe iI,[],[],[])
  |none=>aei P ty c fr iI
 | .returning=>arZ P ty c fr iI
 |_=>none
def OV.is(P:Program)(main:Bool)(g:Goroutine)(w w':World)(es:Array Event)(cs:List Frame):OV→Prop
 | .go fr iI=>stepG P main g w= .go (G fr (iI++cs)) w' es
 | .ret v=>(∀c IY,cs=c::IY→stepG P main g w= .go (G (c.finish v) IY) w' es)
 | .asE=>(∀c IY,cs=c::IY→(c.mode= .returning∨∃ch,c.mode= .panicking [⟨ch,false,true⟩])→stepG P main g w= .go (G c IY) w' es)
 | .block=>stepG P main g w= .go {g with status:= .blocked} w' es
section
variable {P:Program} {main:Bool} {ty:TypeId} {W:Nat} {c:Mf} {fr:Frame} {iI cs:List Frame} {w:World} {o:OV} {ws:List (Nat×Value)} {es:List Event} {bs:List Nat}
theorem toArr(P:Program)(fn:FuncId)(es:List Event):(uX P fn es).toArray=seen P fn es.toArray:=by simp[uX]
theorem aeh(hm:fr.mode= .run)(h:aei P ty c fr iI=some (o,ws,es,bs))(hb:∀b∈bs,b=W)(hc:(c=jJ∧bs=[])∨mC ty W w c)(cs:List Frame)(main:Bool):o.is P main (G fr (iI++cs)) w (MS W w ws) es.toArray cs:=by
 rcases fr with ⟨fn,tmps,todo,defers,mode,kind,ro⟩
 simp only at hm;subst hm
 unfold aei at h
 simp only at h
 split at h<;>try (cases h;done)
 rename_i ops i rest k
 cases hw:(((ops[i]?).map (Region.wanted · (yielded ops tmps))).getD false&& !(XP kind)) with
 |false=>rw[hw] at h;cases h
 |true=>
 rw[hw] at h;simp only[cond_true] at h
 simp only[Bool.and_eq_true] at hw
 have hk:(kind==CallKind.early)=false:=by cases kind<;>first|rfl|cases hw.2
 split at h<;>try (cases h;done)
 rename_i op aA
 have gP:∀cs,stepG P main (G ⟨fn,tmps,.inRegion ops (i::rest)::k,defers,.run,kind,none⟩ cs) w=stepG.apply P true ⟨fn,tmps,.inRegion ops (i::rest)::k,defers,.run,kind,none⟩ cs none (execOp (Frame.eval ⟨fn,tmps,.inRegion ops (i::rest)::k,defers,.run,kind,none⟩) op) w:=by
  intro cs
  simp only[G,stepG,stepG.exec,hw.1,if_true,stepG.oper,aA]
 split at h<;>try (cases h;done)
 all_goals
  rename_i heq hv
  simp only[Option.some.injEq,Prod.mk.injEq] at h
  obtain⟨rfl,rfl,rfl,rfl⟩:=h
  have bX:=My _ (w:=w) #[] hv hb hc
  simp only[RH.to,Array.empty_append] at bX
  simp only[OV.is]
  rw[gP]
  simp only[stepG.apply,bX,if_true,hk,Bool.false_eq_true,if_false,GStep.after,Array.append_empty,G,toArr]
 all_goals first|rfl| (simp[seen_none];done)
theorem alc(hm:fr.mode= .returning)(h:arZ P ty c fr iI=some (o,ws,es,bs))(hb:∀b∈bs,b=W)(hc:(c=jJ∧bs=[])∨mC ty W w c)(cs:List Frame)(main:Bool):o.is P main (G fr (iI++cs)) w (MS W w ws) es.toArray cs:=by
 rcases fr with ⟨fn,tmps,todo,defers,mode,kind,ro⟩
 simp only at hm;subst hm
 unfold arZ at h
 simp only at h
 split at h
 ·split at h<;>try (cases h;done)
  rename_i f hf
  split at h<;>try (cases h;done)
  rename_i v ws' eI xf hv
  have bX:=fun hb hc=>My _ (w:=w) #[] hv (W:=W) hb hc
  simp only[RH.to,Array.empty_append] at bX
  have key:(∀b∈xf,b=W)→((c=jJ∧xf=[])∨mC ty W w c)→∀cs,stepG P main (G ⟨fn,tmps,todo,[],.returning,kind,ro⟩ cs) w=GStep.after (seen P fn eI.toArray) (doReturn P main ⟨fn,tmps,todo,[],.returning,kind,ro⟩ cs none v (MS W w ws')):=by
   intro hb hc cs
   simp only[G,stepG,unwind,hf,bX hb hc]
  split at h
  ·split at h<;>try (cases h;done)
   ·simp only[Option.some.injEq,Prod.mk.injEq] at h
    obtain⟨rfl,rfl,rfl,rfl⟩:=h
    simp only[OV.is]
    rw[key hb hc]
    simp only[List.cons_append,doReturn,GStep.after,Array.append_empty,toArr,G]
   split at h<;>try (cases h;done)
   rename_i q gE hmq
   simp only[Option.some.injEq,Prod.mk.injEq] at h
   obtain⟨rfl,rfl,rfl,rfl⟩:=h
   simp only[OV.is]
   rw[key hb hc]
   simp only[List.cons_append,doReturn,hmq,GStep.after,Array.append_empty,toArr,G]
  split at h<;>try (cases h;done)
  ·simp only[Option.some.injEq,Prod.mk.injEq] at h
   obtain⟨rfl,rfl,rfl,rfl⟩:=h
   intro q IY hq
   subst hq
   rw[key hb hc]
   simp only[List.nil_append,doReturn,GStep.after,Array.append_empty,toArr,G]
  simp only[Option.some.injEq,Prod.mk.injEq] at h
  obtain⟨rfl,rfl,rfl,rfl⟩:=h
  intro q IY hq hmq
  subst hq
  rw[key hb hc]
  rcases hmq with hmq| ⟨ch,hmq⟩
  ·simp only[List.nil_append,doReturn,hmq,GStep.after,Array.append_empty,toArr,G]
  simp only[List.nil_append,doReturn,hmq,GStep.after,Array.append_empty,toArr,G]
 rename_i d ds
 cases hd:aCO d.target with
 |false=>rw[hd] at h;cases h
 |true=>
 rw[hd] at h;simp only[cond_true] at h
 rcases d with ⟨tg,args⟩
 cases tg with
 |fn f cap=>
  split at h<;>try (cases h;done)
  all_goals
   rename_i hv
   simp only[Option.some.injEq,Prod.mk.injEq] at h
   obtain⟨rfl,rfl,rfl,rfl⟩:=h
   have bX:=My _ (w:=w) #[] hv hb hc
   simp only[RH.to,Array.empty_append] at bX
   simp only[OV.is]
   simp only[G,stepG,unwind,callDeferred,bX,GStep.after,toArr,Array.append_empty,Bool.false_and,Bool.false_eq_true,if_false,List.cons_append]
 |_=>cases hd
theorem rD(h:Qa P ty c fr iI=some (o,ws,es,bs))(hb:∀b∈bs,b=W)(hc:(c=jJ∧bs=[])∨mC ty W w c)(cs:List Frame)(main:Bool):o.is P main (G fr (iI++cs)) w (MS W w ws) es.toArray cs:=by
 unfold Qa at h
 split at h<;>try (cases h;done)
 ·rename_i hm
  split at h
  ·rename_i oe hfr
   simp only[Option.some.injEq,Prod.mk.injEq] at h
   obtain⟨rfl,rfl,rfl,rfl⟩:=h
   exact aoi hm hfr w
  exact aeh hm h hb hc cs main
 rename_i hm
 exact alc hm h hb hc cs main
end
def ajl:Event→Option (Nat×Nat×List Nat)
 | ⟨.mark .disable,false,true⟩=>some (1,0,[])
 | ⟨.mark .enable,false,true⟩=>some (2,0,[])
 | ⟨.mark (.releaseMerge ⟨b,o,none⟩),false,true⟩=>some (3,o,[b])
 | ⟨.mark (.acquire ⟨b,o,none⟩),false,true⟩=>some (4,o,[b])
 | ⟨.mark (.read ⟨b,o,none⟩),false,true⟩=>some (5,o,[b])
 | ⟨.mark (.write ⟨b,o,none⟩),false,true⟩=>some (6,o,[b])
 | ⟨.cell ⟨b,o,none⟩,false,true⟩=>some (7,o,[b])
 | ⟨.cell ⟨b,o,none⟩,true,true⟩=>some (8,o,[b])
 |_=>none
def VD(W:Nat)(x:Nat×Nat):Event:=
 match x.1 with
 |1=>said .disable
 |2=>said .enable
 |3=>said (.releaseMerge ⟨W,x.2,none⟩)
 |4=>said (.acquire ⟨W,x.2,none⟩)
 |5=>said (.read ⟨W,x.2,none⟩)
 |6=>said (.write ⟨W,x.2,none⟩)
 |7=>⟨.cell ⟨W,x.2,none⟩,false,true⟩
 |_=>⟨.cell ⟨W,x.2,none⟩,true,true⟩
theorem ajk{e:Event}{k o:Nat}{bs:List Nat}(h:ajl e=some (k,o,bs))(hb:∀b∈bs,b=W):e=VD W (k,o):=by
 unfold ajl at h
 split at h<;>try (cases h;done)
 all_goals
  simp only[Option.some.injEq,Prod.mk.injEq] at h
  obtain⟨rfl,rfl,rfl⟩:=h
 ·rfl
 ·rfl
 all_goals
  have:=hb _ (List.mem_singleton.2 rfl)
  subst this
  rfl
def H6:List Event→Option (List (Nat×Nat)×List Nat)
 | []=>some ([],[])
 |e::l=>match ajl e,H6 l with
  |some (k,o,b),some (r,bs)=>some ((k,o)::r,b++bs)
  |_,_=>none
theorem LP:∀ {es:List Event} {ks:List (Nat×Nat)} {bs:List Nat},H6 es=some (ks,bs)→(∀b∈bs,b=W)→es=ks.map (VD W)
 | [],ks,bs,h,hb=>by simp only[H6,Option.some.injEq,Prod.mk.injEq] at h;obtain⟨rfl,rfl⟩:=h;rfl
 |e::l,ks,bs,h,hb=>by
  simp only[H6] at h
  split at h<;>try (cases h;done)
  rename_i k o b r xf h1 h2
  simp only[Option.some.injEq,Prod.mk.injEq] at h
  obtain⟨rfl,rfl⟩:=h
  rw[List.map_cons,←ajk h1 (fun x hx=>hb x (by simp[hx])),←LP h2 (fun x hx=>hb x (by simp[hx]))]
abbrev Bl:=Option (List Nat)
def ajN:List Nat→Bl→Bl
 |a,some b=>some (a++b)
 |_,none=>none
def both:Bl→Bl→Bl
 |some a,some b=>some (a++b)
 |_,_=>none
def ajT(f:α→Bl):List α→Bl
 | []=>some []
 |x::l=>both (f x) (ajT f l)
theorem Ol{a bs:List Nat}{x:Bl}(h:ajN a x=some bs)(hb:∀b∈bs,b=W):(∀b∈a,b=W)∧∃y,x=some y∧∀b∈y,b=W:=by
 cases x with
 |none=>cases h
 |some y=>
  simp only[ajN,Option.some.injEq] at h;subst h
  exact⟨fun b hm=>hb b (by simp[hm]),y,rfl,fun b hm=>hb b (by simp[hm])⟩
theorem BH{bs:List Nat}{x y:Bl}(h:both x y=some bs)(hb:∀b∈bs,b=W):(∃a,x=some a∧∀b∈a,b=W)∧∃a,y=some a∧∀b∈a,b=W:=by
 cases x with
 |none=>cases h
 |some a=>
  cases y with
  |none=>cases h
  |some b=>
   simp only[both,Option.some.injEq] at h;subst h
   exact⟨⟨a,rfl,fun b hm=>hb b (by simp[hm])⟩,b,rfl,fun b hm=>hb b (by simp[hm])⟩
theorem FI{f:α→Bl}:∀ {l:List α} {bs:List Nat},ajT f l=some bs→(∀b∈bs,b=W)→∀x∈l,∃a,f x=some a∧∀b∈a,b=W
 | [],_,_,_,x,hx=>by cases hx
 |y::l,bs,h,hb,x,hx=>by
  obtain⟨h1,h2,h3,h4⟩:=BH h hb
  rcases List.mem_cons.1 hx with rfl|hx
  ·exact h1
  exact FI h3 h4 x hx
def Ei(P:Program)(ty:TypeId):Nat→Frame→List Frame→(Frame→List Frame→Bl)→Bl
 |0,_,_,_=>none
 |n+1,fr,iI,k=>match Qa P ty jJ fr iI with
  |some (.go oe gE,[],[],bs)=>ajN bs (Ei P ty n oe gE k)
  |_=>k fr iI
def arB(P:Program)(ty:TypeId)(c:Mf)(fr:Frame)(iI:List Frame):Option (Frame×List Frame×List (Nat×Value)×List (Nat×Nat)×List Nat×List Nat):=
 match Qa P ty c fr iI with
 |some (.go oe gE,ws,es,bs)=>match H6 es with
  |some (ks,b2)=>some (oe,gE,ws,ks,bs,b2)
  |none=>none
 |_=>none
def i64(n:Int):Value:= .int .u64 n
def i32(n:Int):Value:= .int .u32 n
def VQ:List (Nat×Nat)→List (Nat×Nat)→Bool
 | [],[]=>true
 | (a,b)::l,(c,d)::m=>Nat.beq a c&&(Nat.beq b d&&VQ l m)
 |_,_=>false
theorem YT:∀ {l m:List (Nat×Nat)},VQ l m=true→l=m
 | [],[],_=>rfl
 | (a,b)::l,(c,d)::m,h=>by
  simp only[VQ,Bool.and_eq_true] at h
  rw[Nat.eq_of_beq_eq_true h.1,Nat.eq_of_beq_eq_true h.2.1,YT h.2.2]
 | [],_::_,h=>by simp[VQ] at h
 |_::_,[],h=>by simp[VQ] at h
def abq:List (Nat×Value)→Option (Nat×IntKind×Int)→Bool
 | [],none=>true
 | [(o,.int k n)],some (o',k',n')=>Nat.beq o o'&&(decide (k=k')&&decide (n=n'))
 |_,_=>false
theorem abp{l:List (Nat×Value)}(h:abq l none=true):l=[]:=by
 unfold abq at h
 split at h
 ·rfl
 ·rename_i heq;cases heq
 cases h
theorem abo{l:List (Nat×Value)}{o:Nat}{k:IntKind}{n:Int}(h:abq l (some (o,k,n))=true):l=[(o,.int k n)]:=by
 unfold abq at h
 split at h
 ·rename_i heq;cases heq
 ·rename_i heq
  cases heq
  simp only[Bool.and_eq_true,decide_eq_true_eq] at h
  rw[Nat.eq_of_beq_eq_true h.1,h.2.1,h.2.2]
 cases h
def EA(P:Program)(ty:TypeId)(c:Mf)(m:Bool)(wr:Option (Nat×IntKind×Int))(ks:List (Nat×Nat))(fr:Frame)(iI:List Frame)(k:Frame→List Frame→Bl):Bl:=
 match arB P ty c fr iI with
 |some (oe,gE,ws,ks',b1,b2)=>bif abq ws wr&&(VQ ks' ks&&(!m||b1.isEmpty)) then ajN b1 (ajN b2 (k oe gE)) else none
 |none=>none
section
variable {P:Program} {ty:TypeId} {W:Nat}
theorem ak8{c:Mf}{gE:List Frame}{ws:List (Nat×Value)}{ks:List (Nat×Nat)}{b1 b2:List Nat}(h:arB P ty c fr iI=some (oe,gE,ws,ks,b1,b2))(h1:∀b∈b1,b=W)(h2:∀b∈b2,b=W)
 {w:World}(hc:(c=jJ∧b1=[])∨mC ty W w c)(cs:List Frame)(main:Bool):stepG P main (G fr (iI++cs)) w= .go (G oe (gE++cs)) (MS W w ws) (ks.map (VD W)).toArray:=by
 unfold arB at h
 split at h<;>try (cases h;done)
 rename_i h0
 split at h<;>try (cases h;done)
 rename_i hk
 simp only[Option.some.injEq,Prod.mk.injEq] at h
 obtain⟨rfl,rfl,rfl,rfl,rfl,rfl⟩:=h
 have:=rD h0 h1 hc cs main
 simp only[OV.is] at this
 rw[this,LP hk h2]
def wrote(W:Nat)(w:World):Option (Nat×IntKind×Int)→World
 |none=>w
 |some (o,k,n)=>w.setCell ⟨W,o,none⟩ (.int k n)
theorem iu{c:Mf}{m:Bool}{x:Option (Nat×IntKind×Int)}{ks:List (Nat×Nat)}{k:Frame→List Frame→Bl}{bs:List Nat}(h:EA P ty c m x ks fr iI k=some bs)(hb:∀b∈bs,b=W):
 ∃oe gE xf,k oe gE=some xf∧(∀b∈xf,b=W)∧∀cs main w,((c=jJ∧m=true)∨mC ty W w c)→stepG P main (G fr (iI++cs)) w= .go (G oe (gE++cs)) (wrote W w x) (ks.map (VD W)).toArray:=by
 unfold EA at h
 split at h<;>try (cases h;done)
 rename_i oe gE ws ks' b1 b2 hv
 cases hq:(abq ws x&&(VQ ks' ks&&(!m||b1.isEmpty))) with
 |false=>rw[hq] at h;cases h
 |true=>
 rw[hq] at h;simp only[cond_true] at h
 simp only[Bool.and_eq_true] at hq
 obtain⟨q1,q2,q3⟩:=hq
 obtain⟨h1,y,hy,hy'⟩:=Ol h hb
 obtain⟨h2,z,hz,EO⟩:=Ol hy hy'
 refine⟨oe,gE,z,hz,EO,fun cs main w hc=>?_⟩
 have:=ak8 hv h1 h2 (w:=w) (by
  rcases hc with ⟨hc,hm⟩|hc
  ·subst hm
   simp at q3
   exact .inl ⟨hc,q3⟩
  exact .inr hc) cs main
 rw[this,YT q2]
 cases x with
 |none=>rw[abp q1];rfl
 |some x=>
  obtain⟨o,kd,n⟩:=x
  rw[abo q1];rfl
theorem Vn{k:Frame→List Frame→Bl}:∀ {n:Nat} {fr:Frame} {iI:List Frame} {bs:List Nat},Ei P ty n fr iI k=some bs→(∀b∈bs,b=W)→
 ∀(T:Frame→List Frame→Prop),(∀oe gE xf,k oe gE=some xf→(∀b∈xf,b=W)→T oe gE)→
 (∀fr iI oe gE,(∀cs main w,mC ty W w jJ→stepG P main (G fr (iI++cs)) w= .go (G oe (gE++cs)) w #[])→T oe gE→T fr iI)→T fr iI
 |0,_,_,_,h,_,_,_,_=>by cases h
 |n+1,fr,iI,bs,h,hb,T,hk,hs=>by
  simp only[Ei] at h
  split at h
  ·rename_i oe gE b1 h0
   obtain⟨h1,y,hy,hy'⟩:=Ol h hb
   refine hs fr iI oe gE (fun cs main w hc=>?_) (Vn hy hy' T hk hs)
   have:=rD h0 h1 (.inr hc) cs main
   simp only[OV.is] at this
   rw[this];rfl
  exact hk _ _ _ h hb
end
section
variable {ι:Type} (E:ep ι)
theorem GQ{w:World}(h:E.live w):mC E.ty E.Wg w jJ:=by
 obtain⟨st,sm,h⟩:=h
 exact⟨_,_,h,by simp,by simp⟩
theorem pn{w:World}(h:WgAt E.ty E.Wg w st sm):mC E.ty E.Wg w (some (i64 st),some (i32 sm)):=⟨_,_,h,by simp[i64],by simp[i32]⟩
theorem ass{w:World}(h:WgAt E.ty E.Wg w st sm):mC E.ty E.Wg w (none,some (i32 sm)):=⟨_,_,h,by simp,by simp[i32]⟩
variable {E}
theorem fK{Stop:Goroutine→Prop}{k:Frame→List Frame→Bl}{bs:List Nat}(h:Ei E.P E.ty n fr iI k=some bs)(hb:∀b∈bs,b=E.Wg)
 (hk:∀oe gE xf,k oe gE=some xf→(∀b∈xf,b=E.Wg)→Stop (G oe (gE++cs))):E.pure main Stop (G fr (iI++cs)):=by
 refine Vn h hb (fun fr iI=>E.pure main Stop (G fr (iI++cs))) (fun oe gE xf h1 h2=>⟨0,hk _ _ _ h1 h2⟩) fun fr iI oe gE h1 ⟨m,hm⟩=>⟨m+1,rfl,_,fun w hw=>h1 cs main w (GQ E hw),hm⟩
theorem NP{L:Nat→Option Obj}{pend d0:Nat}{os:List ι}{s:St}{k:Frame→List Frame→Bl}{bs:List Nat}(h:Ei E.P E.ty n fr iI k=some bs)(hb:∀b∈bs,b=E.Wg)
 (hk:∀oe gE xf,k oe gE=some xf→(∀b∈xf,b=E.Wg)→TC E L Q pend false os d0 (G oe (gE++cs)) s):TC E L Q pend false os d0 (G fr (iI++cs)) s:=
 Vn h hb (fun fr iI=>TC E L Q pend false os d0 (G fr (iI++cs)) s) hk fun fr iI oe gE h1 hT=>Wu rfl (fun w hw=>h1 cs true w (GQ E hw)) hT
def goR(P:Program)(ty:TypeId):Nat→Frame→List Frame→Bl
 |0,_,_=>none
 |n+1,fr,iI=>match Qa P ty jJ fr iI with
  |some (.go oe gE,[],[],[])=>goR P ty n oe gE
  |some (.ret (.tuple ⟨[]⟩),[],[],[])=>some []
  |_=>none
theorem Vl{c:Frame}:∀ {n:Nat} {fr:Frame} {iI:List Frame} {bs:List Nat},goR P ty n fr iI=some bs→
 ∀(main:Bool) (T:Goroutine→Prop),T (G (c.finish (.tuple #[])) cs)→(∀g g',g.status= .running→g'.status= .running→(∀w,stepG P main g w= .go g' w #[])→T g'→T g)→T (G fr (iI++c::cs))
 |0,_,_,_,h,_,_,_,_=>by cases h
 |n+1,fr,iI,bs,h,main,T,hT,hs=>by
  simp only[goR] at h
  split at h
  ·rename_i oe gE h0
   refine hs _ _ rfl rfl (fun w=>?_) (Vl h main T hT hs)
   have:=rD (W:=0) (w:=w) h0 (by simp) (.inl ⟨rfl,rfl⟩) (c::cs) main
   simp only[OV.is] at this
   rw[this];rfl
  ·rename_i h0
   refine hs _ _ rfl rfl (fun w=>?_) hT
   have:=rD (W:=0) (w:=w) h0 (by simp) (.inl ⟨rfl,rfl⟩) (c::cs) main
   simp only[OV.is] at this
   have h2:=this c cs rfl
   rw[h2];rfl
  cases h
def Qo:List Event→Bool
 | []=>true
 |e::l=>e.mute&&Qo l
def goQ(P:Program)(ty:TypeId):Nat→Nat→Frame→List Frame→Bl
 |0,_,_,_=>none
 |n+1,d,fr,iI=>match Qa P ty jJ fr iI with
  |some (.go oe gE,[],es,[])=>bif Qo es then goQ P ty n (deafBehind d es.toArray) oe gE else none
  |some (.asE,[],[],[])=>bif Nat.beq d 0 then some [] else none
  |_=>none
theorem Qn:∀ {es:List Event},Qo es=true→∀e∈es,e.mute=true
 | [],_,e,he=>by cases he
 |x::l,h,e,he=>by
  simp only[Qo,Bool.and_eq_true] at h
  rcases List.mem_cons.1 he with rfl|he
  ·exact h.1
  exact Qn h.2 e he
theorem Vm{c:Frame}{q:Nat}(hc:c.mode= .returning∨∃ch,c.mode= .panicking [⟨ch,false,true⟩])(hq:QuitsD P q 0 (G c cs)):∀ {n d:Nat} {fr:Frame} {iI:List Frame} {bs:List Nat},goQ P ty n d fr iI=some bs→
 ∃q,QuitsD P q d (G fr (iI++c::cs))
 |0,_,_,_,_,h=>by cases h
 |n+1,d,fr,iI,bs,h=>by
  simp only[goQ] at h
  split at h
  ·rename_i oe gE es h0
   cases hm:Qo es with
   |false=>rw[hm] at h;cases h
   |true=>
   rw[hm] at h;simp only[cond_true] at h
   obtain⟨q',Eb⟩:=Vm hc hq h
   refine⟨q'+1,.inr ⟨rfl,_,es.toArray,fun e he=>Qn hm e (by simpa using he),fun w=>?_,Eb⟩⟩
   have:=rD (W:=0) (w:=w) h0 (by simp) (.inl ⟨rfl,rfl⟩) (c::cs) false
   simp only[OV.is] at this
   rw[this];rfl
  ·rename_i h0
   cases hd:Nat.beq d 0 with
   |false=>rw[hd] at h;cases h
   |true=>
   have:d=0:=Nat.eq_of_beq_eq_true hd
   subst this
   refine⟨q+1,.ctl rfl (fun w=>?_) hq⟩
   have:=rD (W:=0) (w:=w) h0 (by simp) (.inl ⟨rfl,rfl⟩) (c::cs) false
   simp only[OV.is] at this
   have h2:=this c cs rfl hc
   rw[h2];rfl
  cases h
end
section
variable (P:Program) (ty:TypeId)
abbrev YK(a b:Int):Mf:=(some (i64 a),some (i32 b))
abbrev aAB:List (Nat×Nat):=[(1,0),(7,1),(8,1),(2,0)]
def ajx(f:Frame)(s:List Frame):Bl:=bif mayWake P (G f []) then EA P ty (YK 0 0) false (some (1,.u32,1)) aAB f s (goQ P ty 300 1) else none
def aqY(f:Frame)(s:List Frame):Bl:=EA P ty (YK 1 0) false (some (0,.u64,0)) [(8,0)] f s fun f s=>Ei P ty 300 f s (ajx P ty)
def aqZ(f:Frame)(s:List Frame):Bl:=EA P ty (YK 1 0) false none [(7,0)] f s fun f s=>Ei P ty 300 f s (aqY P ty)
def VI(f:Frame)(s:List Frame)(v wt:Nat):Bl:=
 EA P ty (YK (((v+1:Nat):Int)*KK+(wt:Int)) 0) false (some (0,.u64,(v:Int)*KK+(wt:Int))) [(7,0),(8,0)] f s fun f s=>bif Nat.beq v 0&&Nat.beq wt 1 then Ei P ty 300 f s (aqZ P ty) else goQ P ty 300 1 f s
def aq0(mx:Nat)(f:Frame)(s:List Frame):Bl:=ajT (fun v=>both (VI P ty f s v 0) (VI P ty f s v 1)) (List.range mx)
def aqX(mx:Nat)(f:Frame)(s:List Frame):Bl:=EA P ty jJ true none [(1,0)] f s fun f s=>Ei P ty 300 f s (aq0 P ty mx)
def aqW(mx:Nat)(f:Frame)(s:List Frame):Bl:=EA P ty jJ true none [(3,0)] f s fun f s=>Ei P ty 300 f s (aqX P ty mx)
def xS(mx:Nat)(f:Frame):Bl:=Ei P ty 300 f [] (aqW P ty mx)
def aq1(f:Frame)(s:List Frame):Bl:=EA P ty jJ true none [(4,0)] f s (goR P ty 300)
def YJ(f:Frame)(s:List Frame):Bl:=EA P ty jJ true none [(2,0)] f s fun f s=>Ei P ty 300 f s (aq1 P ty)
def aqT(f:Frame)(s:List Frame):Bl:=EA P ty (YK 0 0) false none [(7,0)] f s fun f s=>Ei P ty 300 f s (YJ P ty)
def aIi(c:Mf)(f:Frame)(s:List Frame):Bl:=match Qa P ty c f s with
 |some (.block,[],[],bs)=>some bs
 |_=>none
def aqU(f:Frame)(s:List Frame):Bl:=both (aIi P ty (none,some (i32 0)) f s) (EA P ty (YK 0 1) false (some (1,.u32,0)) aAB f s fun f s=>Ei P ty 300 f s (aqT P ty))
def aqS(f:Frame)(s:List Frame):Bl:=EA P ty jJ true none [(6,1)] f s fun f s=>Ei P ty 300 f s (aqU P ty)
def aqV(ame:Frame→List Frame→Bl)(vs:Nat)(f:Frame)(s:List Frame):Bl:=
 both (EA P ty (YK ((vs:Int)*KK) 0) false (some (0,.u64,(vs:Int)*KK+1)) [(7,0),(8,0)] f s fun f s=>Ei P ty 300 f s (aqS P ty))
  (ajT (fun v:Nat=>EA P ty (YK ((v:Int)*KK) 0) false none [(7,0)] f s fun f s=>Ei P ty 300 f s ame) (List.range vs))
def Se:Nat→Frame→List Frame→Bl
 |0,f,s=>EA P ty (YK 0 0) false none [(7,0)] f s fun f s=>Ei P ty 300 f s (YJ P ty)
 |b+1,f,s=>both (EA P ty (YK 0 0) false none [(7,0)] f s fun f s=>Ei P ty 300 f s (YJ P ty))
  (ajT (fun v:Nat=>EA P ty (YK (((v+1:Nat):Int)*KK) 0) false none [(7,0)] f s fun f s=>Ei P ty 300 f s (aqV P ty (Se b) (v+1))) (List.range (b+1)))
def BC(mx:Nat)(f:Frame):Bl:=Ei P ty 300 f [] fun f s=>EA P ty jJ true none [(1,0)] f s fun f s=>Ei P ty 300 f s (Se P ty mx)
def Ic(v:Nat)(f:Frame):Bl:=
 Ei P ty 300 f [] fun f s=>EA P ty jJ true none [(1,0)] f s fun f s=>Ei P ty 300 f s fun f s=>
  EA P ty (YK ((v:Int)*KK) 0) false (some (0,.u64,((v+1:Nat):Int)*KK)) [(7,0),(8,0)] f s fun f s=>Ei P ty 300 f s fun f s=>
   bif Nat.beq v 0 then EA P ty jJ false none [(5,1)] f s fun f s=>Ei P ty 300 f s fun f s=>EA P ty jJ true none [(2,0)] f s (goR P ty 300)
   else EA P ty jJ true none [(2,0)] f s (goR P ty 300)
end
section
variable {ι:Type} {E:ep ι}
section leave
variable {c:Frame} {cs:List Frame} (hc:c.mode= .returning∨∃ch,c.mode= .panicking [⟨ch,false,true⟩]) {q0:Nat} (hq:QuitsD E.P q0 0 (G c cs))
include hc hq
theorem ajw{bs:List Nat}(h:ajx E.P E.ty f s=some bs)(hb:∀b∈bs,b=E.Wg):E.D4 (G f (s++c::cs)):=by
 unfold ajx at h
 cases hm:mayWake E.P (G f []) with
 |false=>rw[hm] at h;cases h
 |true=>
 rw[hm] at h;simp only[cond_true] at h
 obtain⟨f',s',xf,h1,h2,h3⟩:=iu h hb
 exact⟨rfl,hm,_,fun w hw=>h3 _ _ w (.inr (pn E hw)),Vm hc hq h1⟩
theorem ajy{bs:List Nat}(h:aqY E.P E.ty f s=some bs)(hb:∀b∈bs,b=E.Wg):E.D3 (G f (s++c::cs)):=by
 obtain⟨f',s',xf,h1,h2,h3⟩:=iu h hb
 exact⟨rfl,_,fun w hw=>h3 _ _ w (.inr (pn E hw)),fK h1 h2 fun _ _ _ k1 k2=>ajw hc hq k1 k2⟩
theorem ajz{bs:List Nat}(h:aqZ E.P E.ty f s=some bs)(hb:∀b∈bs,b=E.Wg):E.D2 (G f (s++c::cs)):=by
 obtain⟨f',s',xf,h1,h2,h3⟩:=iu h hb
 exact⟨rfl,_,fun w hw=>h3 _ _ w (.inr (pn E hw)),fK h1 h2 fun _ _ _ k1 k2=>ajy hc hq k1 k2⟩
theorem ajA{bs:List Nat}(h:aq0 E.P E.ty E.max f s=some bs)(hb:∀b∈bs,b=E.Wg):E.D1 (G f (s++c::cs)):=by
 refine⟨rfl,fun v wt hwt hv=>?_⟩
 obtain⟨a,h1,h2⟩:=FI h hb v (List.mem_range.2 hv)
 have key:∃a,VI E.P E.ty f s v wt=some a∧∀b∈a,b=E.Wg:=by
  obtain⟨k1,k2⟩:=BH h1 h2
  match wt,hwt with
  |0,_=>exact k1
  |1,_=>exact k2
 obtain⟨a',k1,k2⟩:=key
 obtain⟨f',s',xf,j1,j2,j3⟩:=iu k1 k2
 refine⟨_,fun w hw=>j3 _ _ w (.inr (pn E hw)),fun hh=>?_,fun hh=>?_⟩
 ·obtain⟨rfl,rfl⟩:=hh
  exact fK j1 j2 fun _ _ _ k1 k2=>ajz hc hq k1 k2
 have:(Nat.beq v 0&&Nat.beq wt 1)=false:=by
  cases hx:(Nat.beq v 0&&Nat.beq wt 1) with
  |false=>rfl
  |true=>
   simp only[Bool.and_eq_true] at hx
   exact absurd ⟨Nat.eq_of_beq_eq_true hx.1,Nat.eq_of_beq_eq_true hx.2⟩ hh
 rw[this] at j1;simp only[cond_false] at j1
 exact Vm hc hq j1
theorem ajv{bs:List Nat}(h:aqX E.P E.ty E.max f s=some bs)(hb:∀b∈bs,b=E.Wg):E.K1 (G f (s++c::cs)):=by
 obtain⟨f',s',xf,h1,h2,h3⟩:=iu h hb
 exact⟨rfl,_,fun w=>h3 _ _ w (.inl ⟨rfl,rfl⟩),fK h1 h2 fun _ _ _ k1 k2=>ajA hc hq k1 k2⟩
theorem aju{bs:List Nat}(h:aqW E.P E.ty E.max f s=some bs)(hb:∀b∈bs,b=E.Wg):E.R0 (G f (s++c::cs)):=by
 obtain⟨f',s',xf,h1,h2,h3⟩:=iu h hb
 exact⟨rfl,_,fun w=>h3 _ _ w (.inl ⟨rfl,rfl⟩),fK h1 h2 fun _ _ _ k1 k2=>ajv hc hq k1 k2⟩
theorem Ib{bs:List Nat}(h:xS E.P E.ty E.max f=some bs)(hb:∀b∈bs,b=E.Wg):E.pure false E.R0 (G f (c::cs)):=
 fK (iI:=[]) h hb fun _ _ _ k1 k2=>aju hc hq k1 k2
end leave
section close
variable {c:Frame} {cs:List Frame} {st:St} (hT:e9 E.P false E.JJ (G (c.finish (.tuple #[])) cs) st)
include hT
theorem ajB{bs:List Nat}(h:aq1 E.P E.ty f s=some bs)(hb:∀b∈bs,b=E.Wg):E.Aq st (G f (s++c::cs)):=by
 obtain⟨f',s',xf,h1,h2,h3⟩:=iu h hb
 have key:=Vl (c:=c) (cs:=cs) h1 false (fun g=>e9 E.P false E.JJ g st) hT fun g g' hg hg' bW hT'=>(ez _ _ _).go hg hg' bW hT'
 obtain⟨tr,iG,hle,ht⟩:=key
 exact⟨rfl,_,fun w=>h3 _ _ w (.inl ⟨rfl,rfl⟩),tr,iG,hle,ht⟩
theorem Ia{bs:List Nat}(h:YJ E.P E.ty f s=some bs)(hb:∀b∈bs,b=E.Wg):E.Ke st (G f (s++c::cs)):=by
 obtain⟨f',s',xf,h1,h2,h3⟩:=iu h hb
 exact⟨rfl,_,fun w=>h3 _ _ w (.inl ⟨rfl,rfl⟩),fK h1 h2 fun _ _ _ k1 k2=>ajB hT k1 k2⟩
theorem ajr{bs:List Nat}(h:aqT E.P E.ty f s=some bs)(hb:∀b∈bs,b=E.Wg):E.W4 st (G f (s++c::cs)):=by
 obtain⟨f',s',xf,h1,h2,h3⟩:=iu h hb
 exact⟨rfl,_,fun w hw=>h3 _ _ w (.inr (pn E hw)),fK h1 h2 fun _ _ _ k1 k2=>Ia hT k1 k2⟩
theorem ajs{bs:List Nat}(h:aqU E.P E.ty f s=some bs)(hb:∀b∈bs,b=E.Wg):E.W3 st (G f (s++c::cs)):=by
 obtain⟨⟨b1,k1,k2⟩,b2,k3,k4⟩:=BH h hb
 obtain⟨f',s',xf,h1,h2,h3⟩:=iu k3 k4
 refine⟨rfl,rfl,fun w n hw=>?_,_,fun w hw=>h3 _ _ w (.inr (pn E hw)),fK h1 h2 fun _ _ _ k1 k2=>ajr hT k1 k2⟩
 unfold aIi at k1
 split at k1<;>try (cases k1;done)
 rename_i h0
 simp only[Option.some.injEq] at k1;subst k1
 have:=rD h0 k2 (w:=w) (.inr (ass E hw)) (c::cs) false
 simp only[OV.is] at this
 rw[this];rfl
theorem ajq{bs:List Nat}(h:aqS E.P E.ty f s=some bs)(hb:∀b∈bs,b=E.Wg):E.Wr st (G f (s++c::cs)):=by
 obtain⟨f',s',xf,h1,h2,h3⟩:=iu h hb
 exact⟨rfl,_,fun w=>h3 _ _ w (.inl ⟨rfl,rfl⟩),fK h1 h2 fun _ _ _ k1 k2=>ajs hT k1 k2⟩
theorem ajt{ame:Frame→List Frame→Bl}{ajZ:Goroutine→Prop}(hm:∀f s bs,ame f s=some bs→(∀b∈bs,b=E.Wg)→ajZ (G f (s++c::cs))){vs:Nat}{bs:List Nat}(h:aqV E.P E.ty ame vs f s=some bs)(hb:∀b∈bs,b=E.Wg):
 E.W2 (E.pure false ajZ) st vs (G f (s++c::cs)):=by
 obtain⟨⟨b1,k1,k2⟩,b2,k3,k4⟩:=BH h hb
 obtain⟨f',s',xf,h1,h2,h3⟩:=iu k1 k2
 refine⟨rfl,⟨_,fun w hw=>h3 _ _ w (.inr (pn E hw)),fK h1 h2 fun _ _ _ k1 k2=>ajq hT k1 k2⟩,fun v hv=>?_⟩
 obtain⟨a,j1,j2⟩:=FI k3 k4 v (List.mem_range.2 hv)
 obtain⟨f2,s2,bs2,i1,i2,i3⟩:=iu j1 j2
 exact⟨_,fun w hw=>i3 _ _ w (.inr (pn E hw)),fK i1 i2 fun _ _ _ k1 k2=>hm _ _ _ k1 k2⟩
theorem Sd:∀ {b:Nat} {f:Frame} {s:List Frame} {bs:List Nat},Se E.P E.ty b f s=some bs→(∀b∈bs,b=E.Wg)→E.W1 st b (G f (s++c::cs))
 |0,f,s,bs,h,hb=>by
  simp only[Se] at h
  obtain⟨f',s',xf,h1,h2,h3⟩:=iu h hb
  exact⟨rfl,_,fun w hw=>h3 _ _ w (.inr (pn E hw)),fK h1 h2 fun _ _ _ k1 k2=>Ia hT k1 k2⟩
 |b+1,f,s,bs,h,hb=>by
  simp only[Se] at h
  obtain⟨⟨b1,k1,k2⟩,b2,k3,k4⟩:=BH h hb
  obtain⟨f',s',xf,h1,h2,h3⟩:=iu k1 k2
  refine⟨rfl,⟨_,fun w hw=>h3 _ _ w (.inr (pn E hw)),fK h1 h2 fun _ _ _ k1 k2=>Ia hT k1 k2⟩,fun v hv1 hv2=>?_⟩
  obtain⟨u,rfl⟩:∃u,v=u+1:=⟨v-1,by omega⟩
  obtain⟨a,j1,j2⟩:=FI k3 k4 u (List.mem_range.2 (by omega))
  obtain⟨f2,s2,bs2,i1,i2,i3⟩:=iu j1 j2
  exact⟨_,fun w hw=>i3 _ _ w (.inr (pn E hw)),fK i1 i2 fun _ _ _ k1 k2=>ajt hT (ajZ:=E.W1 st b) (fun _ _ _ m1 m2=>Sd m1 m2) k1 k2⟩
theorem H9{bs:List Nat}(h:BC E.P E.ty E.max f=some bs)(hb:∀b∈bs,b=E.Wg):E.closes st (G f (c::cs)):=
 fK (iI:=[]) h hb fun _ _ _ k1 k2=>by
  obtain⟨f',s',xf,h1,h2,h3⟩:=iu k1 k2
  exact⟨rfl,_,fun w=>h3 _ _ w (.inl ⟨rfl,rfl⟩),fK h1 h2 fun _ _ _ k1 k2=>Sd hT k1 k2⟩
end close
theorem LU{L:Nat→Option Obj}{os:List ι}{s:St}{c:Frame}{bs:List Nat}(h:Ic E.P E.ty os.length f=some bs)(hb:∀b∈bs,b=E.Wg)(Jt:os.length <E.max)
 (hT:TC E L Q 1 false os 0 (G (c.finish (.tuple #[])) cs) s):TC E L Q 0 false os 0 (G f (c::cs)) s:=by
 have qL:∀ {f:Frame} {iI:List Frame} {bs:List Nat},EA E.P E.ty jJ true none [(2,0)] f iI (goR E.P E.ty 300)=some bs→(∀b∈bs,b=E.Wg)→TC E L Q 1 false os 1 (G f (iI++c::cs)) s:=by
  intro f iI bs h hb
  obtain⟨f',s',xf,h1,h2,h3⟩:=iu h hb
  refine Fo (mr:=1) (d':=0) rfl rfl (fun w st sm hw hz _=>⟨w,h3 _ _ w (.inl ⟨rfl,rfl⟩),eY.refl w,by obtain⟨rfl,rfl⟩:=hz rfl;exact hw⟩) (by intro e he;simp[VD] at he;subst he;exact .inr (.inl rfl)) rfl id ?_
  exact Vl (c:=c) (cs:=cs) h1 true (fun g=>TC E L Q 1 false os 0 g s) hT fun g g' hg hg' bW hT'=>Wu hg (fun w _=>bW w) hT'
 refine NP (iI:=[]) h hb fun f1 s1 b1 k1 k2=>?_
 obtain⟨f',s',xf,h1,h2,h3⟩:=iu k1 k2
 refine Fo (mr:=0) (d':=1) rfl rfl (fun w st sm hw hz _=>⟨w,h3 _ _ w (.inl ⟨rfl,rfl⟩),eY.refl w,by obtain⟨rfl,rfl⟩:=hz rfl;exact hw⟩) (by intro e he;simp[VD] at he;subst he;exact .inl rfl) rfl id ?_
 refine NP h1 h2 fun f2 s2 b2 k1 k2=>?_
 obtain⟨f',s',xf,h1,h2,h3⟩:=iu k1 k2
 refine Fo (mr:=1) (d':=1) rfl rfl (fun w st sm hw hz _=>⟨_,h3 _ _ w (.inr ?_),eY.set w 0 _,?_⟩) (by
  intro e he;simp[VD] at he
  rcases he with rfl|rfl<;>exact oy 0 _) rfl (fun _=>Jt) ?_
 ·obtain⟨rfl,rfl⟩:=hz rfl
  exact pn E hw
 ·obtain⟨rfl,rfl⟩:=hz rfl
  exact Go.ConcR.WgAt.setSt hw _
 refine NP h1 h2 fun f3 s3 b3 k1 k2=>?_
 cases hz:Nat.beq os.length 0 with
 |false=>
  rw[hz] at k1;simp only[cond_false] at k1
  exact qL k1 k2
 |true=>
  rw[hz] at k1;simp only[cond_true] at k1
  obtain⟨f',s',xf,h1,h2,h3⟩:=iu k1 k2
  refine alh rfl (fun w hw=>h3 _ _ w (.inr (GQ E hw)))<|NP h1 h2 fun f4 s4 b4 k1 k2=>qL k1 k2
end
def CA(P:Program):Class:=fun main T=>Closed P main T
def ads:Code→Nat
 | .seq a b=>ads a+ads b+1
 |_=>0
def gR(l:List Code):List Code:=l.flatMap jk
section
variable {P:Program} {main:Bool} {T:Goroutine→St→Prop} {b:Frame} {k:List Item} {cs:List Frame} {a:Act} {s:St} {n LF:Nat} {D:List Deferred} {call:cm} {ops:Array Oper}
 {ρ:aU} {ce e:Env} {m:Mem} {F:Nat×Obj→Prop} {R:Nat→Option Obj}
abbrev On(T:Goroutine→St→Prop)(b:Frame)(a:Act)(l:List Code)(k:List Item)(cs:List Frame)(s:St):Prop:=T (G (aL b a (l.map .code++k)) cs) s
theorem og(hT:Closed P main T){c0:Code}:∀ {l:List Code},gR l=c0::rest→(∀l',gR l'=rest→T (G (aL b a (.code c0::(l'.map .code++k))) cs) s)→On T b a l k cs s:=by
 intro l
 generalize hn:(l.map ads).sum=q
 induction q using Nat.strongRecOn generalizing l with
 |_ q ih=>
  intro hl h
  cases l with
  |nil=>cases hl
  |cons c l=>
   cases hc:c with
   |seq x y=>
    subst hc
    refine hT.go rfl rfl (g':=G (aL b a ((x::y::l).map .code++k)) cs) (fun w=>by simp[G,stepG,stepG.exec,aL])<|ih ((x::y::l).map ads).sum ?_ rfl ?_ h
    ·rw[←hn];simp[ads];omega
    rw[←hl];simp[gR,jk]
   |_=>
    subst hc
    simp only[gR,List.flatMap_cons,jk,List.singleton_append,List.cons.injEq] at hl
    obtain⟨rfl,hl⟩:=hl
    exact h l hl
theorem dS(hT:Closed P main T)(hl:gR l= .region id ops false::rest)(h:∀l',gR l'=rest→T (G (aL b a (.inRegion ops (List.range ops.size)::(l'.map .code++k))) cs) s):On T b a l k cs s:=
 og hT hl fun l' zi=>hT.go rfl rfl (g':=G (aL b a (.inRegion ops (List.range ops.size)::(l'.map .code++k))) cs) (fun w=>by simp[G,stepG,stepG.exec,aL]) (h l' zi)
theorem AX(hT:Closed P main T){c:Operand}{x y:Code}{t:Bool}(hl:gR l= .cond c x y::rest)(hc:a.eval c= .bool t)(h:∀l',gR l'=rest→T (G (aL b a (.code (if t then x else y)::(l'.map .code++k))) cs) s):On T b a l k cs s:=
 og hT hl fun l' zi=>hT.go rfl rfl (g':=G (aL b a (.code (if t then x else y)::(l'.map .code++k))) cs) (fun w=>by
  have he:=kZ b a (.code (.cond c x y)::(l'.map .code++k))
  simp only[aL] at he
  simp only[G,stepG,stepG.exec,aL,he,hc]) (h l' zi)
theorem wo(hT:Closed P main T){c:Code}(hl:gR l= .block id c::rest)(h:∀l',gR l'=rest→On T b a [c] (.inBlock id::(l'.map .code++k)) cs s):On T b a l k cs s:=
 og hT hl fun l' zi=>hT.go rfl rfl (g':=G (aL b a (.code c:: .inBlock id::(l'.map .code++k))) cs) (fun w=>by simp[G,stepG,stepG.exec,aL]) (show T (G (aL b a (.code c:: .inBlock id::(l'.map .code++k))) cs) s from h l' zi)
theorem Dl(hT:Closed P main T)(h:T (G (aL b a k) cs) s):T (G (aL b a (.inBlock id::k)) cs) s:=
 hT.go rfl rfl (g':=G (aL b a k) cs) (fun w=>by simp[G,stepG,stepG.exec,aL]) h
theorem M1(hT:Closed P main T){c:Code}(hl:gR l= .loop c::rest)(h:∀l',gR l'=rest→On T b a [c] (.inLoop c::(l'.map .code++k)) cs s):On T b a l k cs s:=
 og hT hl fun l' zi=>hT.go rfl rfl (g':=G (aL b a (.code c:: .inLoop c::(l'.map .code++k))) cs) (fun w=>by simp[G,stepG,stepG.exec,aL]) (show T (G (aL b a (.code c:: .inLoop c::(l'.map .code++k))) cs) s from h l' zi)
theorem Ac(hT:Closed P main T){c:Code}(h:On T b a [c] (.inLoop c::k) cs s):T (G (aL b a (.inLoop c::k)) cs) s:=
 hT.go rfl rfl (g':=G (aL b a (.code c:: .inLoop c::k)) cs) (fun w=>by simp[G,stepG,stepG.exec,aL]) h
theorem N2(hT:Closed P main T)(h:T (G (aL b a k) cs) s):T (G (aL b a (.code .skip::k)) cs) s:=
 hT.go rfl rfl (g':=G (aL b a k) cs) (fun w=>by simp[G,stepG,stepG.exec,aL]) h
theorem N3(hT:Closed P main T){k':List Item}(hk:exitTo id k=some k')(h:T (G (aL b a k') cs) s):T (G (aL b a (.code (.exit id)::k)) cs) s:=
 hT.go rfl rfl (g':=G (aL b a k') cs) (fun w=>by simp[G,stepG,stepG.exec,aL,hk]) h
theorem iB(hT:Closed P main T)(h:T (G (aL b a k) cs) s):T (G (aL b a (.inRegion ops []::k)) cs) s:=
 hT.go rfl rfl (g':=G (aL b a k) cs) (fun w=>by simp[G,stepG,stepG.exec,aL]) h
theorem qV(id:Nat):∀(l:List Code) (k:List Item),exitTo id (l.map .code++k)=exitTo id k
 | [],k=>rfl
 |c::l,k=>by
  rw[List.map_cons,List.cons_append]
  exact qV id l k
theorem th(hT:Closed P main T){rest:List Nat}{o:Oper}(ho:ops[i]?=some o) (hw:Region.wanted o (yielded ops a.tmps)=true) (hk:b.kind≠ .early) (hb:b.roundOf=none)
 (h:bR P (execOp a.eval o) s (fun nx s'=>∃v,nx= .value v∧T (G (aL b (a.put o.dst v) (.inRegion ops rest::k)) cs) s') (fun _ _=>False)):T (G (aL b a (.inRegion ops (i::rest)::k)) cs) s:=by
 have jU:(b.kind==CallKind.early)=false:=by simpa using hk
 have gP:∀w,stepG P main (G (aL b a (.inRegion ops (i::rest)::k)) cs) w=stepG.apply P true (aL b a (.inRegion ops (i::rest)::k)) cs none (execOp a.eval o) w:=by
  intro w
  have he:=kZ b a (.inRegion ops (i::rest)::k)
  simp only[aL] at he
  simp only[G,stepG,stepG.exec,aL,ho,Option.map_some,Option.getD_some,hw,if_true,stepG.oper,Frame.oper?,he]
  rw[hb]
 refine hT.step _ _ rfl fun w p6=>?_
 obtain⟨r,es,hr,hl⟩:=gX _ _ _ _ w #[] h p6
 rw[Array.empty_append] at hr
 have ng:=gP w
 simp only[stepG.apply,if_true,hr] at ng
 simp only[aL,jU,Bool.false_eq_true,if_false] at ng
 cases r with
 |ok nx w'=>
  obtain⟨s',ht,v,rfl,hv⟩:=hl
  simp only[GStep.after,Array.append_empty] at ng
  have mJ:=fT b a ops i rest k v
  rw[ho] at mJ
  simp only[Option.bind_some] at mJ
  rw[←mJ] at hv
  exact⟨_,_,_,s',ng,rfl,ht.sub (iP P b.fn es),hv⟩
 |halt hh w'=>
  obtain⟨s',ht,hu⟩:=hl
  exact hu.elim
theorem dF(o:Oper)(f:Nat→Option Bool)(h:o.guard=none):Region.wanted o f=true:=by unfold Region.wanted;rw[h]
end
def St.freeze(s:St):St:=⟨fun b=>match s.rw.find? (fun x=>x.1==b) with
 |some x=>some x.2
 |none=>s.ro b,[]⟩
theorem oS{l:List (Nat×Obj)}{b:Nat}{x:Nat×Obj}(h:l.find? (fun x=>x.1==b)=some x):x∈l∧x.1=b:=
 ⟨List.mem_of_find?_eq_some h,by simpa using List.find?_some h⟩
theorem wV{l:List (Nat×Obj)}(hn:(l.map (·.1)).Nodup){b:Nat}(h:(b,o)∈l):l.find? (fun x=>x.1==b)=some (b,o):=by
 induction l with
 |nil=>cases h
 |cons y l ih=>
  rw[List.map_cons,List.nodup_cons] at hn
  rcases List.mem_cons.1 h with rfl|h'
  ·simp
  have:y.1≠b:=fun e=>hn.1 (e▸List.mem_map.2 ⟨_,h',rfl⟩)
  rw[List.find?_cons_of_neg (by simpa using this)]
  exact ih hn.2 h'
theorem St.Dd(s:St):s.freeze.le s:=by
 refine⟨s.rw,by simp[St.freeze],fun b o h=>?_⟩
 simp only[St.freeze] at h
 split at h
 ·rename_i x hx
  obtain⟨h1,h2⟩:=oS hx
  cases h
  subst h2
  exact .inr h1
 exact .inl h
theorem St.od{s:St}{b:Nat}(h:s.ro b=some o)(ha:∀b o,(b,o)∈s.rw→s.ro b=none):s.freeze.ro b=some o:=by
 simp only[St.freeze]
 split
 ·rename_i x hx
  obtain⟨h1,h2⟩:=oS hx
  subst h2
  rw[ha x.1 x.2 h1] at h;cases h
 exact h
theorem St.tD{s:St}{b:Nat}(h:(b,o)∈s.rw)(hn:(s.rw.map (·.1)).Nodup):s.freeze.ro b=some o:=by
 simp only[St.freeze,wV hn h]
section
variable {P:Program} {ρ:aU} {m:Mem} {F:Nat×Obj→Prop} {R:Nat→Option Obj} {s:St}
theorem Closed.jV(hT:Closed P main T)(hs:g.status= .running)(h:(∃w,aS s w)→T g s):T g s:=by
 by_cases ha:∃w,aS s w
 ·exact h ha
 exact hT.step _ _ hs fun w hw=>absurd ⟨w,hw⟩ ha
end
section
variable {P:Program} {main:Bool} {T:Goroutine→St→Prop} {b:Frame} {k:List Item} {cs:List Frame} {a:Act} {s:St} {n LF:Nat} {D:List Deferred} {call:cm} {ops:Array Oper}
 {ρ:aU} {ce e:Env} {m:Mem} {F:Nat×Obj→Prop} {R:Nat→Option Obj}
theorem P7(hT:Closed P main T){rest:List Nat}{o:Oper}(ho:ops[i]?=some o) (hg:o.guard=none) (hk:b.kind≠ .early) (hb:b.roundOf=none) {f:FuncId} (aA:o.op= .call ⟨.value (.func f),xs,ats⟩) (hf:FF P f)
 (h:T (G (Frame.enter P f (xs.map a.eval) .normal) (aL b a (.inRegion ops (i::rest)::k)::cs)) s):T (G (aL b a (.inRegion ops (i::rest)::k)) cs) s:=by
 have jU:(b.kind==CallKind.early)=false:=by simpa using hk
 have hw:Region.wanted o (yielded ops a.tmps)=true:=dF o _ hg
 have wD:bR P (execOp a.eval o) s (fun nx s'=>nx= .enter f (xs.map a.eval)∧s'=s) (fun _ _=>False):=by
  have e1:a.eval (.func f)= .func (.func f) #[] #[]:=rfl
  simp only[execOp,aA,resolve,e1,Deferred.ofValue,aa,ae,invoke]
  have:(#[]++xs.map a.eval:Array Value)++ #[]=xs.map a.eval:=by simp
  rw[this]
  exact kz hf ⟨rfl,rfl⟩
 have gP:∀w,stepG P main (G (aL b a (.inRegion ops (i::rest)::k)) cs) w=stepG.apply P true (aL b a (.inRegion ops (i::rest)::k)) cs none (execOp a.eval o) w:=by
  intro w
  have he:=kZ b a (.inRegion ops (i::rest)::k)
  simp only[aL] at he
  simp only[G,stepG,stepG.exec,aL,ho,Option.map_some,Option.getD_some,hw,if_true,stepG.oper,Frame.oper?,he]
  rw[hb]
 refine hT.step _ _ rfl fun w p6=>?_
 obtain⟨r,es,hr,hl⟩:=gX _ _ _ _ w #[] wD p6
 rw[Array.empty_append] at hr
 have ng:=gP w
 simp only[stepG.apply,if_true,hr] at ng
 simp only[aL,jU,Bool.false_eq_true,if_false] at ng
 cases r with
 |ok nx w'=>
  obtain⟨s',ht,rfl,rfl⟩:=hl
  simp only[GStep.after,Array.append_empty] at ng
  exact⟨_,_,_,_,ng,rfl,ht.sub (iP P b.fn es),h⟩
 |halt hh w'=>
  obtain⟨s',ht,hu⟩:=hl
  exact hu.elim
def cQ(P:Program):Frame:={(default:Frame) with fn:=P.funcs.size,defers:=[],mode:= .panicking [goexitEntry]}
theorem PT(P:Program):QuitsD P 1 0 (G (cQ P) []):=by
 have hc:(cQ P).catches P=false:=by
  simp[Frame.catches,cQ]
  rfl
 refine .ctl (g':={(G (cQ P) []) with status:= .finished}) rfl (fun w=>?_) ⟨rfl,rfl⟩
 have bW:stepG P false (G (cQ P) []) w=unwind P false (cQ P) [] none w:=rfl
 rw[bW]
 unfold unwind
 have h1:(cQ P).defers=[]:=rfl
 have h2:(cQ P).mode= .panicking [goexitEntry]:=rfl
 simp only[h1,h2,hc,Bool.false_eq_true,if_false]
 simp[goexitEntry,G]
theorem oA{fn:Func}(hm:fr.mode= .returning)(hd:fr.defers=[])(hk:fr.kind= .deferred)(hf:P.funcs[fr.fn]?=some fn) (hr:fn.results= #[]):QuitsD P 2 0 (G fr [cQ P]):=by
 refine .ctl rfl (fun w=>?_) (PT P)
 have h1:∀tm,results fn tm=Sem.pure (.tuple #[]):=by intro tm;simp[results,hr];rfl
 rcases fr with ⟨fn',tmps,todo,defers,mode,kind,ro⟩
 simp only at hm hd hk hf
 subst hm hd hk
 simp only[G,stepG,unwind,hf,h1,Sem.runT,seen_none,GStep.after,doReturn,cQ,goexitEntry,Array.append_empty]
end
structure Sw where
 f:FuncId
 n:Nat
 cl:List Code
 o7:Array Oper
 o:Oper
 sc:Operand
 sv:Operand
 done:FuncId
def goE(P:Program)(ty:TypeId):Nat→Frame→List Frame→Option (Frame×List Frame)
 |0,fr,iI=>some (fr,iI)
 |n+1,fr,iI=>match Qa P ty jJ fr iI with
  |some (.go oe gE,[],[],[])=>goE P ty n oe gE
  |_=>none
theorem Vo{T:Goroutine→Prop}(hs:∀g g',g.status= .running→g'.status= .running→(∀w,stepG P main g w= .go g' w #[])→T g'→T g):∀ {n:Nat} {fr oe:Frame} {iI gE:List Frame},goE P ty n fr iI=some (oe,gE)→T (G oe (gE++cs))→T (G fr (iI++cs))
 |0,fr,oe,iI,gE,h,hT=>by simp only[goE,Option.some.injEq,Prod.mk.injEq] at h;obtain⟨rfl,rfl⟩:=h;exact hT
 |n+1,fr,oe,iI,gE,h,hT=>by
  simp only[goE] at h
  split at h<;>try (cases h;done)
  rename_i f1 s1 h0
  refine hs _ _ rfl rfl (fun w=>?_) (Vo hs h hT)
  have:=rD (W:=0) (w:=w) h0 (by simp) (.inl ⟨rfl,rfl⟩) cs main
  simp only[OV.is] at this
  rw[this];rfl
theorem Im{f:FuncId}(hf:FF P f)(ca:Array Value)(w:World):stepG P main (born P {target:= .fn (.func f) ca,args:= #[]}) w= .go (G (Frame.enter P f (#[]++ca) .deferred) [cQ P]) w #[]:=by
 obtain⟨fn,h1,h2,h3⟩:=hf.ff
 have bX:(callFunc f (#[]++ca)).runT P w #[]=(.ok (.enter f (#[]++ca)) w,#[]):=by
  show (Sem.program _).runT P w #[]=_
  simp only[Sem.runT,Sem.bind,h1,h2,h3,Bool.false_eq_true,if_false]
  rfl
 simp only[born,stepG,unwind,callDeferred,invoke,bX,GStep.after,seen_none,Bool.false_and,Bool.false_eq_true,if_false,Array.append_empty,G,cQ]
structure Me where
 f:FuncId
 n:Nat
 b:Frame
 q0:Array Oper
 o0:Oper
 rest:Code
 q1:Array Oper
 oc:Oper
 cx:Operand
 wait:FuncId
structure Me.OK(P:Program)(ty:TypeId)(x:Me):Prop where
 ff:BZ P x.f=true
 fn:∃fn,P.funcs[x.f]?=some fn∧fn.results= #[]∧fn.norace=false
 bf:x.b.fn=x.f∧x.b.kind= .deferred∧x.b.roundOf=none
 enter:∀p1 p2:Value,goE P ty 3 (Frame.enter P x.f #[p1,p2] .deferred) []=some (Frame.enter P x.wait #[p1] .normal,[aL x.b (A x.n (fZ 0 [p1,p2]) []) [.inRegion x.q0 [0],.code x.rest]])
 op0:x.q0[0]?=some x.o0
 rest:∃id,gR [x.rest]=[.region id x.q1 false]
 size:x.q1.size=2
 op:x.q1[1]?=some x.oc∧x.oc.guard=none∧∃ats,x.oc.op= .call {callee:= .builtin .close,args:= #[x.cx],argTypes:=ats}
theorem gG(h:gR l=[]):l=[]:=by
 cases l with
 |nil=>rfl
 |cons y l=>
  exfalso
  have:∀c:Code,jk c≠[]:=by
   intro c
   induction c with
   |seq p q ihp ihq=>simp[jk,ihp]
   |_=>simp[jk]
  simp only[gR,List.flatMap_cons,List.append_eq_nil_iff] at h
  exact this y h.1
theorem Dj{b:Frame}(h:b.roundOf=none)(a:Act)(todo:List Item):aL b a todo=b.at a todo:=by simp[aL,Frame.at,h]
def T8(P:Program):Sem Next→Nat→Option (Obj×Value)
 | .new o k,b=>match bw P (k b) with
  |some (.value v)=>some (o,v)
  |_=>none
 | .program k,b=>T8 P (k P) b
 |_,_=>none
theorem GI{f:Nat→Value}{s:St}{K:Next→St→Prop}{E:Halt→St→Prop}(hK:∀b,¬s.knows b→K (.value (f b)) ⟨s.ro,(b,o)::s.rw⟩):∀(x:Sem Next),(∀b,T8 P x b=some (o,f b))→bR P x s K E:=by
 intro x
 induction x with
 |new o' k ih=>
  intro h b hb
  have h':=h b
  simp only[T8] at h'
  split at h'<;>try (cases h';done)
  rename_i v hv
  simp only[Option.some.injEq,Prod.mk.injEq] at h'
  obtain⟨rfl,rfl⟩:=h'
  exact oG hv (hK b hb)
 |program k ih=>intro h;exact ih P h
 |_=>intro h;have:=h 0;simp[T8] at this
structure rY where
 f:FuncId
 n:Nat
 fn:Func
 o0:Array Oper
 o1:Array Oper
 o2:Array Oper
 o3:Array Oper
 o4:Array Oper
 o5:Array Oper
 o6:Array Oper
 o7:Array Oper
 o8:Array Oper
 o9:Array Oper
 o10:Array Oper
 o11:Array Oper
 CH:Array Oper
 o13:Array Oper
 o14:Array Oper
 a1:Oper
 a2:Oper
 a6:Oper
 a7:Oper
 a9:Oper
 Sv:Oper
 lb:Code
 D9:Code
 rb:Code
 uU:Code
 c4:Operand
 c12:Operand
 b0:Nat
 b1:Nat
 b2:Nat
 b3:Nat
 fin:List Code
 add:FuncId
 aoE:Operand
 sp:Operand
 sk:Operand
 rc:Operand
 wk:Sw
 cl:Me
 ty:TypeId
 mx:Nat
def cS(l:List Code)(i:Nat):Array Oper:=match l[i]? with
 |some (.region _ ops _)=>ops
 |_=> #[]
def eX(o:Array Oper)(i:Nat):Oper:=(o[i]?).getD default
def aeW(l:List Code)(i:Nat):Nat×Code:=match l[i]? with
 |some (.block id (.loop c))=>(id,c)
 |_=>(0,.skip)
def YO(l:List Code)(i:Nat):Nat×Code:=match l[i]? with
 |some (.block id c)=>(id,c)
 |_=>(0,.skip)
def ajj(l:List Code)(i:Nat):Operand:=match l[i]? with
 |some (.cond c _ _)=>c
 |_=> .func 0
def Ik(o:Oper):FuncId:=match o.op with
 | .call ⟨.value (.func f),_,_⟩=>f
 | .defer ⟨.value (.func f),_,_⟩=>f
 |_=>0
def aq5(o:Oper)(i:Nat):Operand:=match o.op with
 | .call ⟨_,xs,_⟩=>(xs[i]?).getD (.func 0)
 |_=> .func 0
def aHy(o:Oper):Operand:=match o.op with
 | .go ⟨.value x,_,_⟩=>x
 |_=> .func 0
def aqJ(o:Oper):FuncId:=match o.op with
 | .makeFunc (.func f) _ _=>f
 |_=>0
def chanOf(o:Oper):Operand:=match o.op with
 | .recv _ c _=>c
 | .send c _=>c
 |_=> .func 0
def ast(o:Oper):Operand:=match o.op with
 | .send _ x=>x
 |_=> .func 0
def typeOf(o:Oper):TypeId:=match o.op with
 | .alloc t=>t
 |_=>0
def codeOf(P:Program)(f:FuncId):List Code:=match P.funcs[f]? with
 |some fn=>match fn.body with
  |some c=>jk c
  |none=>[]
 |none=>[]
def tmpsOf(P:Program)(f:FuncId):Nat:=match P.funcs[f]? with
 |some fn=>fn.ntmps
 |none=>0
def asF(P:Program)(f:FuncId):Code:=match P.funcs[f]? with
 |some fn=>match fn.body with
  |some (.seq _ c)=>c
  |_=> .skip
 |none=> .skip
def axi(P:Program)(f:FuncId)(mx:Nat):rY:=
 let l:=codeOf P f
 let lb:=aeW l 4
 let ll:=jk lb.2
 let bb:=YO ll 2
 let bl:=jk bb.2
 let rb:=aeW l 8
 let rl:=jk rb.2
 let rbb:=YO rl 2
 let rbl:=jk rbb.2
 let wf:=aqJ (eX (cS bl 2) 0)
 let wl:=codeOf P wf
 let cf:=aqJ (eX (cS l 5) 0)
 let cl:=codeOf P cf
 {f,n:=tmpsOf P f,fn:=(P.funcs[f]?).getD default,o0:=cS l 0,o1:=cS l 1,o2:=cS l 2,o3:=cS l 3,o4:=cS ll 0,o5:=cS bl 0,o6:=cS bl 1,o7:=cS bl 2,o8:=cS ll 3,
  o9:=cS l 5,o10:=cS l 6,o11:=cS l 7,CH:=cS rl 0,o13:=cS rbl 0,o14:=cS rbl 1,
  a1:=eX (cS l 1) 0,a2:=eX (cS l 2) 0,a6:=eX (cS bl 1) 0,a7:=eX (cS bl 2) 1,a9:=eX (cS l 5) 1,Sv:=eX (cS rl 0) 0,
  lb:=lb.2,D9:=bb.2,rb:=rb.2,uU:=rbb.2,c4:=ajj ll 1,c12:=ajj rl 1,b0:=lb.1,b1:=bb.1,b2:=rb.1,b3:=rbb.1,fin:=(l.drop 9).dropLast,
  add:=Ik (eX (cS bl 1) 0),aoE:=aq5 (eX (cS bl 1) 0) 0,sp:=aHy (eX (cS bl 2) 1),sk:=aHy (eX (cS l 5) 1),rc:=chanOf (eX (cS rl 0) 0),
  wk:={f:=wf,n:=tmpsOf P wf,cl:=wl.dropLast,o7:=cS wl (wl.length-1),o:=eX (cS wl (wl.length-1)) 2,sc:=chanOf (eX (cS wl (wl.length-1)) 2),sv:=ast (eX (cS wl (wl.length-1)) 2),done:=Ik (eX (cS wl 0) 0)},
  cl:={f:=cf,n:=tmpsOf P cf,b:={(default:Frame) with fn:=cf,kind:= .deferred,roundOf:=none},q0:=cS cl 0,o0:=eX (cS cl 0) 0,rest:=asF P cf,q1:=cS cl 1,oc:=eX (cS cl 1) 1,cx:=aq5 (eX (cS cl 1) 1) 0,wait:=Ik (eX (cS cl 0) 0)},
  ty:=typeOf (eX (cS l 2) 0),mx}
theorem xD{k:Nat}:∀b∈List.replicate k W,b=W:=fun b hb=>(List.mem_replicate.1 hb).2
section
variable {ig:Os} {cB:Array (Nat×ByteArray)} {P:Program} {T:Goroutine→St→Prop} {b:Frame} {k:List Item} {cs:List Frame} {a:Act} {s:St} {n LF:Nat} {call:cm} {ops:Array Oper}
 {ρ:aU} {ce e:Env} {m:Mem} {x:rY} {Wg Ch:Nat} {L:Nat→Option Obj} {Q:Machine→Outcome→World→Trace→Prop}
theorem FH{rest:List Nat}{o:Oper}(ho:ops[i]?=some o) (hg:o.guard=none) (hk:b.kind≠ .early) (hb:b.roundOf=none) {y:Operand} (aA:o.op= .go ⟨.value y,#[],ats⟩) {f:FuncId} (hy:a.eval y= .func (.func f) #[] ca) (w:World):
 stepG P main (G (aL b a (.inRegion ops (i::rest)::k)) cs) w= .spawn (G (aL b (a.put o.dst undef) (.inRegion ops rest::k)) cs) (born P {target:= .fn (.func f) ca,args:= #[]}) w #[]:=by
 have hw:Region.wanted o (yielded ops a.tmps)=true:=dF o _ hg
 have hx:execOp a.eval o=Sem.pure (.spawn {target:= .fn (.func f) ca,args:= #[]}):=by
  simp only[execOp,aA,resolve,hy,Deferred.ofValue]
  show Sem.pure (Next.spawn {target:= .fn (.func f) ca,args:= #[]++Array.map a.eval #[]})=_
  simp
 rw[Dj hb,Dj hb]
 have:=stepG_spawn (P:=P) (main:=main) (b:=b) (a:=a) (k:=k) (cs:=cs) (w:=w) (w':=w) (d:={target:= .fn (.func f) ca,args:= #[]}) ho hw hk (rest:=rest) (by rw[hx];rfl) rfl
 rw[this,listed_none (by rw[hx];rfl)]
end
theorem tW:∀ {x:Sem α} {a:α},bw P x=some a→∀(w:World) (es:Array Event),x.runT P w es=(.ok a w,es)
 | .pure _,_,h,w,es=>by simp only[bw,Option.some.injEq] at h;subst h;rfl
 | .program k,_,h,w,es=>tW (x:=k _) h w es
def C0(P:Program):Class:=fun main T=>main=true∧∃ig cB Post,T=T0 P ig cB Post
theorem xT:∀main T,C0 P main T→Closed P main T:=by
 rintro _ _ ⟨rfl,ig,cB,Post,rfl⟩
 exact sV P ig cB Post
abbrev CP(P:Program):Class:=fun main T=>Closed P main T
theorem fq:∀main T,CP P main T→Closed P main T:=fun _ _ h=>h
abbrev Cells:=List (Nat×Obj)
variable {Φ:Value→Cells→Prop} {B X rw' rw:Cells}
def Sub(ro aK:Nat→Option Obj):Prop:=∀b o,ro b=some o→aK b=some o
theorem Sub.refl(ro:Nat→Option Obj):Sub ro ro:=fun _ _ h=>h
theorem Sub.trans{a b c:Nat→Option Obj}(h:Sub a b)(k:Sub b c):Sub a c:=fun x o hx=>k x o (h x o hx)
structure abL(fr B:Cells)(ro:Nat→Option Obj)(s1 s:St):Prop where
 rw:s.rw.Perm (s1.rw++fr)
 aC:∀b o,s1.ro b=some o→s.ro b=some o∨(b,o)∈B
 keep:Sub ro s.ro
theorem xR(hT:Closed P main T){s:St}(hg:g.status= .running)(h:(∃w,aS s w)→T g s):T g s:=by
 by_cases hw:∃w,aS s w
 ·exact h hw
 exact hT.step g s hg fun w p6=>absurd ⟨w,p6⟩ hw
theorem Bo(hT:Closed P main T){fr:Cells}(hB:∀x∈B,x∈fr)(ro:Nat→Option Obj):
 Closed P main (fun g s1=>g.status= .running→∀s,abL fr B ro s1 s→T g s) where
 step:=fun g s1 hg h _ s hc=>by
  refine hT.step g s hg fun w hw=>?_
  have OE:∀x,x∈s.rw↔x∈s1.rw∨x∈fr:=fun x=>by rw[hc.rw.mem_iff,List.mem_append]
  have mw:=(hc.rw.map (·.1)).nodup_iff.1 hw.nodup
  rw[List.map_append,List.nodup_append] at mw
  obtain⟨hn1,hn2,hn3⟩:=mw
  have aEK:∀b o o',(b,o)∈s1.rw→(b,o')∈fr→False:=fun b o o' h1 h2=>hn3 b (List.mem_map.2 ⟨_,h1,rfl⟩) b (List.mem_map.2 ⟨_,h2,rfl⟩) rfl
  have aUq:aS s1 w:=by
   refine⟨fun b o hb=>?_,fun b o hb=>hw.rw b o ((OE _).2 (.inl hb)),hn1,fun b o hb=>?_⟩
   ·rcases hc.aC b o hb with h1|h1
    ·exact hw.ro b o h1
    exact hw.rw b o ((OE _).2 (.inr (hB _ h1)))
   cases hr:s1.ro b with
   |none=>rfl
   |some o'=>
    rcases hc.aC b o' hr with h1|h1
    ·rw[hw.apart b o ((OE _).2 (.inl hb))] at h1;cases h1
    exact(aEK b o o' hb (hB _ h1)).elim
  obtain⟨g',w',es,yQ,bW,bX,ht,hT'⟩:=h w aUq
  have agS:∀b o,(b,o)∈fr→b <w.heap.size:=fun b o hb=>hw.lt (.inr ((OE _).2 (.inr hb)))
  have avI:∀b o,(b,o)∈fr→¬s1.ju b:=fun b o hb ⟨o',Fx⟩=>aEK b o' o Fx hb
  have auL:∀b,s.ro b≠none→¬s1.ju b:=fun b hb ⟨o',Fx⟩=>hb (hw.apart b o' ((OE _).2 (.inl Fx)))
  have af4:∀b,s.ro b≠none→b <w.heap.size:=fun b hb=>by
   cases hr:s.ro b with
   |none=>exact absurd hr hb
   |some o=>exact hw.lt (.inl hr)
  have aEz:∀b o,(b,o)∈fr→w'.heap[b]?=some o:=fun b o hb=>by
   rw[ht.frame b (agS b o hb) (avI b o hb)]
   exact hw.rw b o ((OE _).2 (.inr hb))
  classical
  let aK:Nat→Option Obj:=fun b=>if ∃o,(b,o)∈fr then none else match yQ.ro b with
   |some o=>some o
   |none=>s.ro b
  have auM:∀b o,aK b=some o→¬(∃o,(b,o)∈fr)∧(yQ.ro b=some o∨(yQ.ro b=none∧s.ro b=some o)):=fun b o hb=>by
   simp only[aK] at hb
   split at hb
   ·cases hb
   rename_i hn
   refine⟨hn,?_⟩
   cases h1:yQ.ro b with
   |none=>rw[h1] at hb;exact .inr ⟨rfl,hb⟩
   |some o2=>rw[h1] at hb;exact .inl hb
  have aUp:aS ⟨aK,yQ.rw++fr⟩ w':=by
   refine⟨fun b o hb=>?_,fun b o hb=>?_,?_,fun b o hb=>?_⟩
   ·obtain⟨_,h1| ⟨_,h2⟩⟩:=auM b o hb
    ·exact ht.jV.ro b o h1
    have eg:s.ro b≠none:=by rw[h2];simp
    rw[ht.frame b (af4 b eg) (auL b eg)]
    exact hw.ro b o h2
   ·rcases List.mem_append.1 hb with hb|hb
    ·exact ht.jV.rw b o hb
    exact aEz b o hb
   ·show ((yQ.rw++fr).map (·.1)).Nodup
    rw[List.map_append,List.nodup_append]
    refine⟨ht.jV.nodup,hn2,fun x hx y hy e=>?_⟩
    obtain⟨⟨b,o⟩,h1,rfl⟩:=List.mem_map.1 hx
    obtain⟨⟨b2,o2⟩,h2,rfl⟩:=List.mem_map.1 hy
    dsimp only at e;subst e
    rcases ht.own b ⟨o,h1⟩ with h3|h3
    ·exact absurd (agS b o2 h2) (by omega)
    exact avI b o2 h2 h3
   show aK b=none
   rcases List.mem_append.1 hb with hb|hb
   ·cases hr:aK b with
    |none=>rfl
    |some o'=>
     obtain⟨hn,h1| ⟨_,h2⟩⟩:=auM b o' hr
     ·rw[ht.jV.apart b o hb] at h1;cases h1
     have eg:s.ro b≠none:=by rw[h2];simp
     rcases ht.own b ⟨o,hb⟩ with h3|h3
     ·exact absurd (af4 b eg) (by omega)
     exact(auL b eg h3).elim
   simp only[aK]
   rw[if_pos ⟨o,hb⟩]
  have aEP:abL fr B ro yQ ⟨aK,yQ.rw++fr⟩:=by
   refine⟨.refl _,fun b o hb=>?_,fun b o hb=>?_⟩
   ·by_cases hf:∃o,(b,o)∈fr
    ·obtain⟨o2,IL⟩:=hf
     have e1:=ht.jV.ro b o hb
     rw[aEz b o2 IL] at e1
     cases e1
     rcases ht.Mz b (by rw[hb];simp) with h1|h1|h1
     ·exact absurd (agS b _ IL) (by omega)
     ·cases hr:s1.ro b with
      |none=>exact absurd hr h1
      |some o3=>
       rcases hc.aC b o3 hr with h3|h3
       ·rw[hw.apart b _ ((OE _).2 (.inr IL))] at h3;cases h3
       have e3:=hw.rw b o3 ((OE _).2 (.inr (hB _ h3)))
       rw[hw.rw b _ ((OE _).2 (.inr IL))] at e3
       cases e3
       exact .inr h3
     exact(avI b _ IL h1).elim
    left
    show aK b=some o
    simp only[aK]
    rw[if_neg hf,hb]
   have h1:=hc.keep b o hb
   have eg:s.ro b≠none:=by rw[h1];simp
   have hf:¬ ∃o,(b,o)∈fr:=fun⟨o2,IL⟩=>eg (hw.apart b o2 ((OE _).2 (.inr IL)))
   show aK b=some o
   simp only[aK]
   rw[if_neg hf]
   cases h2:yQ.ro b with
   |none=>exact h1
   |some o2=>
    have e1:=ht.jV.ro b o2 h2
    rw[ht.frame b (af4 b eg) (auL b eg),hw.ro b o h1] at e1
    exact e1.symm
  refine⟨g',w',es,⟨aK,yQ.rw++fr⟩,bW,bX,⟨aUp,ht.size,fun b hb hn=>?_,fun b hb=>?_,fun b hb=>?_,ht.os,ht.output,ht.tape,fun e he=>?_,ht.low⟩,hT' bX _ aEP⟩
  ·exact ht.frame b hb fun⟨o,ho⟩=>hn ⟨o,(OE _).2 (.inl ho)⟩
  ·obtain⟨o,ho⟩:=hb
   rcases List.mem_append.1 ho with ho|ho
   ·rcases ht.own b ⟨o,ho⟩ with h3| ⟨o3,h3⟩
    ·exact .inl h3
    exact .inr ⟨o3,(OE _).2 (.inl h3)⟩
   exact .inr ⟨o,(OE _).2 (.inr ho)⟩
  ·have hb:aK b≠none:=hb
   cases hr:aK b with
   |none=>exact absurd hr hb
   |some o=>
    obtain⟨hn,h1| ⟨_,h2⟩⟩:=auM b o hr
    ·rcases ht.Mz b (by rw[h1];simp) with h3|h3| ⟨o3,h3⟩
     ·exact .inl h3
     ·cases h4:s1.ro b with
      |none=>exact absurd h4 h3
      |some o4=>
       rcases hc.aC b o4 h4 with h5|h5
       ·exact .inr (.inl (by rw[h5];simp))
       exact absurd ⟨_,hB _ h5⟩ hn
     exact .inr (.inr ⟨o3,(OE _).2 (.inl h3)⟩)
    exact .inr (.inl (by rw[h2];simp))
  have S1:=ht.vD e he
  have aqn:∀b,(∃o,(b,o)∈s1.rw)→s.ju b:=fun b ⟨o,ho⟩=>⟨o,(OE _).2 (.inl ho)⟩
  have aDw:∀b,s1.ro b≠none→s.ro b≠none∨s.ju b:=fun b hb=>by
   cases h4:s1.ro b with
   |none=>exact absurd h4 hb
   |some o4=>
    rcases hc.aC b o4 h4 with h5|h5
    ·exact .inl (by rw[h5];simp)
    exact .inr ⟨o4,(OE _).2 (.inr (hB _ h5))⟩
  unfold IE at*
  split at S1
  ·refine⟨S1.1,?_⟩
   rcases S1.2 with h1|h1| ⟨h1,h2⟩
   ·exact .inl h1
   ·exact .inr (.inl (aqn _ h1))
   rcases aDw _ h2 with h3|h3
   ·exact .inr (.inr ⟨h1,h3⟩)
   exact .inr (.inl h3)
  ·refine⟨S1.1,?_⟩
   rcases S1.2 with h1|h1| ⟨h1,h2⟩
   ·exact .inl h1
   ·exact .inr (.inl (aqn _ h1))
   rcases aDw _ h2 with h3|h3
   ·exact .inr (.inr ⟨h1,h3⟩)
   exact .inr (.inl h3)
  ·exact S1
  exact S1
 mono:=fun g s1 yQ hl h bX s hc=>by
  refine xR hT bX fun⟨w,hw⟩=>?_
  obtain⟨R,hR,A9⟩:=hl
  have OE:∀x,x∈s.rw↔x∈yQ.rw∨x∈fr:=fun x=>by rw[hc.rw.mem_iff,List.mem_append]
  have awr:∀x,x∈R→x∈s.rw:=fun x hx=>(OE x).2 (.inl (hR.mem_iff.2 (List.mem_append_right _ hx)))
  classical
  let pZ:Nat→Option Obj:=fun b=>if hx:∃o,(b,o)∈R then some (Classical.choose hx) else s.ro b
  have Ha:∀b o,(b,o)∈R→pZ b=some o:=fun b o hb=>by
   have hx:∃o,(b,o)∈R:=⟨o,hb⟩
   simp only[pZ]
   rw[dif_pos hx]
   have h1:=hw.rw b _ (awr _ (Classical.choose_spec hx))
   rw[hw.rw b o (awr _ hb)] at h1
   cases h1;rfl
  have iE:∀b o,s.ro b=some o→pZ b=some o:=fun b o hb=>by
   simp only[pZ]
   rw[dif_neg]
   ·exact hb
   rintro⟨o2,IL⟩
   rw[hw.apart b o2 (awr _ IL)] at hb;cases hb
  refine hT.mono g ⟨pZ,s1.rw++fr⟩ s ⟨R,?_,fun b o hb=>?_⟩ (h bX _ ⟨.refl _,fun b o hb=>?_,fun b o hb=>iE b o (hc.keep b o hb)⟩)
  ·refine hc.rw.trans ((List.Perm.append_right fr hR).trans ?_)
   rw[List.append_assoc,List.append_assoc]
   exact List.Perm.append_left _ List.perm_append_comm
  ·simp only[pZ] at hb
   split at hb
   ·rename_i hx
    simp only[Option.some.injEq] at hb
    exact .inr (hb▸Classical.choose_spec hx)
   exact .inl hb
  rcases A9 b o hb with h1|h1
  ·exact(hc.aC b o h1).imp (iE b o) id
  exact .inl (Ha b o h1)
theorem Fn.frame{f:FuncId}{s1 s:St}{R:Ending→St→Prop}{fr:Cells}{ro:Nat→Option Obj}(hf:Fn (CP P) P f args s1 R)(hB:∀x∈B,x∈fr)(hc:abL fr B ro s1 s):
 Fn (CP P) P f args s (fun en s'=>∃yQ,R en yQ∧abL fr B ro yQ s'):=
 fun main T hT c cs k1 k2=>hf main _ (Bo hT hB ro) c cs (fun v yQ hv _ s' tB=>k1 v s' ⟨yQ,hv,tB⟩) (fun ch yQ hv _ s' tB=>k2 ch s' ⟨yQ,hv,tB⟩) rfl s hc
def eV(P:Program)(f:FuncId)(args:List Value)(ro:Nat→Option Obj)(own:Cells)(Φ:Value→Cells→Prop):Prop:=
 Fn (CP P) P f ⟨args⟩ ⟨ro,own⟩ (fun en s'=>∃v X,en= .returned v∧s'=⟨ro,X⟩∧Φ v X)
abbrev dz(P:Program)(f:FuncId)(args:List Value)(ro:Nat→Option Obj)(V:Value):Prop:=eV P f args ro [] (fun v X=>v=V∧X=[])
theorem eV.mono{f:FuncId}{args:List Value}{ro:Nat→Option Obj}{own:Cells}{Φ':Value→Cells→Prop}(h:eV P f args ro own Φ)(hk:∀v X,Φ v X→Φ' v X):eV P f args ro own Φ':=
 Fn.mono h fun _ _ ⟨v,X,h1,h2,h3⟩=>⟨v,X,h1,h2,hk v X h3⟩
theorem NT{ro:Nat→Option Obj}:Ext ⟨ro,[]⟩ ⟨ro,rw⟩:=fun _ _ h=>h.elim .inl (fun h=>by cases h)
theorem uD{ro aK:Nat→Option Obj}(h:Sub ro aK):Ext ⟨ro,[]⟩ ⟨aK,[]⟩:=fun b o hb=>hb.elim (fun hb=> .inl (h b o hb)) (fun hb=>by cases hb)
def bH(ro:Nat→Option Obj)(v:Value)(sz:Nat)(enc:α→List Value)(ps:List α):Prop:=
 ∃a b o cap,v= .slice a ps.length cap∧ps.length≤cap∧(∀k,k <ps.length→a=some ⟨b,o,none⟩)∧∀i p,ps[i]?=some p→cF ⟨ro,[]⟩ b (o+i*sz) sz (enc p)
theorem bH.nil(ro:Nat→Option Obj)(sz:Nat)(enc:α→List Value)(a:Option Addr)(cap:Nat):bH ro (.slice a 0 cap) sz enc []:=⟨a,0,0,cap,rfl,Nat.zero_le _,fun k h=>absurd h (Nat.not_lt_zero k),fun i p hp=>by simp at hp⟩
theorem bH.up{ro aK:Nat→Option Obj}{v:Value}{enc:α→List Value}{ps:List α}(h:bH ro v sz enc ps)(hs:Sub ro aK):bH aK v sz enc ps:=by
 obtain⟨a,b,o,cap,h1,h4,h2,h3⟩:=h
 exact⟨a,b,o,cap,h1,h4,h2,fun i p hp=>(h3 i p hp).ext (uD hs)⟩
section rules
variable {P:Program} {C:Class} {fn:FuncId} {aB:Option Nat} {Q:Post} {s:St} {n:Nat} {env:Env} {D:List Deferred}
variable {ops:Array Oper} {i:Nat} {rest:List Nat} {dst:Option Tmp} {ty:TypeId} {pos:String} {db:Array Edge} {g:Option (Nat×Bool)}
variable {T:TypeId} {d:TypeDesc} {sz bD:Nat} {z:List Value} {ag:Bool} {ro:Nat→Option Obj} {rw:Cells}
theorem ab.more{a:Act}(hC:∀main T,C main T→Closed P main T)(hl:s.le s')(h:ab C fn aB ops todo Q a s):ab C fn aB ops todo Q a s':=
 fun main T hT b k cs h1 h2 h3 h4=>(hC _ _ hT).mono _ _ _ hl (h main T hT b k cs h1 h2 h3 h4)
theorem alW{a:Act}(hC:∀main T,C main T→Closed P main T)(h:(∃w,aS s w)→ab C fn aB ops todo Q a s):ab C fn aB ops todo Q a s:=
 fun main T hT b k cs h1 h2 h3 h4=>xR (hC _ _ hT) rfl fun hw=>h hw main T hT b k cs h1 h2 h3 h4
theorem arn{a:Act}{c:Code}(hC:∀main T,C main T→Closed P main T)(h:(∃w,aS s w)→Wp C fn aB c Q a s):Wp C fn aB c Q a s:=
 fun main T hT b k cs h1 h2 h3 h4=>xR (hC _ _ hT) rfl fun hw=>h hw main T hT b k cs h1 h2 h3 h4
theorem aiF{f:FuncId}{R:Ending→St→Prop}(hC:∀main T,C main T→Closed P main T)(h:(∃w,aS s w)→Fn C P f args s R):Fn C P f args s R:=
 fun main T hT c cs h1 h2=>xR (hC _ _ hT) rfl fun hw=>h hw main T hT c cs h1 h2
theorem Yr(hp:rw.Perm (X++s.rw))(hw:∃w,aS ⟨s.ro,rw⟩ w):∃aK,Sub s.ro aK∧(∀x∈X,aK x.1=some x.2)∧(⟨aK,s.rw⟩:St).le ⟨s.ro,rw⟩:=by
 classical
 obtain⟨w,hw⟩:=hw
 have Am:∀x,x∈X→x∈rw:=fun x hx=>hp.mem_iff.2 (List.mem_append_left _ hx)
 refine⟨fun b=>if hx:∃o,(b,o)∈X then some (Classical.choose hx) else s.ro b,fun b o hb=>?_,fun x hx=>?_,X,hp.trans List.perm_append_comm,fun b o hb=>?_⟩
 ·simp only
  rw[dif_neg]
  ·exact hb
  rintro⟨o2,IL⟩
  have:=hw.apart b o2 (Am _ IL)
  rw[show s.ro b=none from this] at hb;cases hb
 ·obtain⟨b,o⟩:=x
  have ma:∃o,(b,o)∈X:=⟨o,hx⟩
  simp only
  rw[dif_pos ma]
  have h1:=hw.rw b _ (Am _ (Classical.choose_spec ma))
  rw[hw.rw b o (Am _ hx)] at h1
  cases h1;rfl
 simp only at hb
 split at hb
 ·rename_i hx
  simp only[Option.some.injEq] at hb
  exact .inr (hb▸Classical.choose_spec hx)
 exact .inl hb
theorem Zi{a:Act}{c:Code}(hC:∀main T,C main T→Closed P main T)(hp:rw'.Perm (X++rw))(h:∀aK,Sub ro aK→(∀x∈X,aK x.1=some x.2)→Wp C fn aB c Q a ⟨aK,rw⟩):Wp C fn aB c Q a ⟨ro,rw'⟩:=
 arn hC fun hw=>by
  obtain⟨aK,h1,h2,h3⟩:=Yr (s:=⟨ro,rw⟩) hp hw
  exact(h aK h1 h2).more hC h3
theorem T3{a:Act}(hC:∀main T,C main T→Closed P main T)(hp:rw'.Perm (X++rw))(h:∀aK,Sub ro aK→(∀x∈X,aK x.1=some x.2)→ab C fn aB ops todo Q a ⟨aK,rw⟩):ab C fn aB ops todo Q a ⟨ro,rw'⟩:=
 alW hC fun hw=>by
  obtain⟨aK,h1,h2,h3⟩:=Yr (s:=⟨ro,rw⟩) hp hw
  exact(h aK h1 h2).more hC h3
theorem eV.use{f:FuncId}{own fr:Cells}(hp:s.rw.Perm (own++fr))(hB:∀x∈B,x∈fr)(hf:∀aC,Sub s.ro aC→(∀x∈B,aC x.1=some x.2)→eV P f vs aC own Φ):
 Fn (CP P) P f ⟨vs⟩ s (fun en s'=>∃v X,en= .returned v∧Φ v X∧(⟨s.ro,X++fr⟩:St).le s'):=by
 refine aiF fq fun⟨w,hw⟩=>?_
 classical
 have Am:∀x,x∈B→x∈s.rw:=fun x hx=>hp.mem_iff.2 (List.mem_append_right _ (hB x hx))
 let aC:Nat→Option Obj:=fun b=>if hx:∃o,(b,o)∈B then some (Classical.choose hx) else s.ro b
 have h1:Sub s.ro aC:=fun b o hb=>by
  simp only[aC]
  rw[dif_neg]
  ·exact hb
  rintro⟨o2,IL⟩
  rw[hw.apart b o2 (Am _ IL)] at hb;cases hb
 have h2:∀x∈B,aC x.1=some x.2:=fun⟨b,o⟩ hx=>by
  have ma:∃o,(b,o)∈B:=⟨o,hx⟩
  simp only[aC]
  rw[dif_pos ma]
  have h3:=hw.rw b _ (Am _ (Classical.choose_spec ma))
  rw[hw.rw b o (Am _ hx)] at h3
  cases h3;rfl
 refine Fn.mono (Fn.frame (fr:=fr) (B:=B) (ro:=s.ro) (s:=s) (hf aC h1 h2) hB ⟨hp,fun b o hb=>?_,Sub.refl _⟩) fun en s' Ef=>?_
 ·simp only[aC] at hb
  split at hb
  ·rename_i hx
   simp only[Option.some.injEq] at hb
   exact .inr (hb▸Classical.choose_spec hx)
  exact .inl hb
 obtain⟨yQ,⟨v,X,rfl,rfl,qF⟩,hc⟩:=Ef
 exact⟨v,X,rfl,qF,[],by simpa using hc.rw,fun b o hb=> .inl (hc.keep b o hb)⟩
theorem aet(hC:∀main T,C main T→Closed P main T){f:FuncId}{own fr:Cells}(ho:ops[i]?=some ⟨dst,.call ⟨.value x,xs,at_⟩,ty,pos,db,g⟩) (hw:ay ops n env g=true)
 (hv:bp n env x=some (.func (.func f) fi ca)) (ff:FF P f) (hx:vD n env xs=some vs) (sB:fi++⟨vs⟩++ca=⟨ws⟩) (hp:s.rw.Perm (own++fr)) (hB:∀x∈B,x∈fr) (hf:∀aC,Sub s.ro aC→(∀x∈B,aC x.1=some x.2)→eV P f ws aC own Φ)
 (h:∀v X,Φ v X→ab C fn aB ops rest Q (A n (upd dst v env) D) ⟨s.ro,X++fr⟩):ab C fn aB ops (i::rest) Q (A n env D) s:=
 ur hC ho hw hv ff hx sB ((eV.use hp hB hf).weaken hC) (fun v' s' hr=>by obtain⟨v,X,e,h1,h2⟩:=hr;cases e;exact(h _ X h1).more hC h2) (fun ch s' hr=>by obtain⟨_,_,e,_⟩:=hr;cases e) (fun s' hr=>by obtain⟨_,_,e,_⟩:=hr;cases e)
theorem dz.use{f:FuncId}{V:Value}{sz:St}(hez:Ext s sz)(hf:∀aC,(∀b o,s.has b o→aC b=some o)→dz P f vs aC V):Fn (CP P) P f ⟨vs⟩ sz (fun e s'=>e= .returned V∧sz.le s'):=by
 refine aiF fq fun⟨w,hw⟩=>?_
 refine Fn.mono (eV.use (s:=sz) (own:=[]) (fr:=sz.rw) (B:=sz.rw) (.refl _) (fun _ h=>h) (fun aC h1 h2=>hf aC fun b o hb=>?_)) fun en s' Ef=>?_
 ·rcases hez b o hb with h3|h3
  ·exact h1 b o h3
  exact h2 _ h3
 obtain⟨v,X,e,⟨h1,h2⟩,h3⟩:=Ef
 subst h1 h2
 exact⟨e,h3⟩
theorem Qh(hC:∀main T,C main T→Closed P main T){f:FuncId}{V:Value}{s0:St}(ho:ops[i]?=some ⟨dst,.call ⟨.value x,xs,at_⟩,ty,pos,db,g⟩) (hw:ay ops n env g=true)
 (hv:bp n env x=some (.func (.func f) fi ca)) (ff:FF P f) (hx:vD n env xs=some vs) (sB:fi++⟨vs⟩++ca=⟨ws⟩) (hez:Ext s0 s) (hf:∀aC,(∀b o,s0.has b o→aC b=some o)→dz P f ws aC V) (h:ab C fn aB ops rest Q (A n (upd dst V env) D) s):ab C fn aB ops (i::rest) Q (A n env D) s:=
 ur hC ho hw hv ff hx sB ((dz.use hez hf).weaken hC) (fun v' s' hr=>by obtain⟨e,h1⟩:=hr;cases e;exact h.more hC h1) (fun ch s' hr=>by cases hr.1) (fun s' hr=>by cases hr.1)
theorem Ga{ro aC:Nat→Option Obj}(h:∀b o,(⟨ro,rw⟩:St).has b o→aC b=some o):Sub ro aC:=fun b o hb=>h b o (.inl hb)
theorem az.kJ{v:Value}{T:TypeId}{enc:α→List Value}{ps:List α}{L:Cells}{aC:Nat→Option Obj}(h:az v sz T enc ps L)(hL:∀x∈L,aC x.1=some x.2):bH aC v sz enc ps:=by
 obtain⟨a,b,o,cap,h1,h2,h3⟩:=h.sl (s:=⟨aC,[]⟩) fun x hx=> .inl (hL x hx)
 refine⟨a,b,o,cap,h1,?_,h2,h3⟩
 rcases h with ⟨_,g2,_⟩| ⟨b',l,aWg,g1,_,_,g4,_⟩
 ·subst g2;exact Nat.zero_le _
 rw[g1] at h1;cases h1;exact g4
end rules
section rules
variable {P:Program} {C:Class} {fn:FuncId} {aB:Option Nat} {Q:Post} {s:St} {n:Nat} {env:Env} {D:List Deferred}
variable {ops:Array Oper} {i:Nat} {rest:List Nat} {dst:Option Tmp} {ty:TypeId} {pos:String} {db:Array Edge} {g:Option (Nat×Bool)}
variable {T:TypeId} {d:TypeDesc} {sz bD:Nat} {z:List Value} {ag:Bool}
theorem T6(hC:∀main T,C main T→Closed P main T)(ho:ops[i]?=some ⟨dst,.range T x,ty,pos,db,g⟩) (hw:ay ops n env g=true) (tf:TF P T .string sz bD z ag) (hx:bp n env x=some (.string b))
 (h:∀r,¬s.knows r→ab C fn aB ops rest Q (A n (upd dst (.pointer (some ⟨r,0,none⟩)) env) D) ⟨s.ro,(r,.stringIter b 0)::s.rw⟩):ab C fn aB ops (i::rest) Q (A n env D) s:=by
 refine bV hC ho hw (by simp) ?_
 simp only[execOp,Instr.range,aa,a8 tf,aG hx,ae,oE]
 intro r hr
 have:=h r hr
 rw[←aY] at this
 exact this
theorem aab(hC:∀main T,C main T→Closed P main T){r:Nat}{L R:Cells}(ho:ops[i]?=some ⟨dst,.next x true,ty,pos,db,g⟩) (hw:ay ops n env g=true) (hx:bp n env x=some (.pointer (some ⟨r,0,none⟩))) (hs:s.rw=L++(r,.stringIter b p)::R) (hp:p <b.size)
 (h:ab C fn aB ops rest Q (A n (upd dst (.tuple ⟨[.bool true,.int .i64 p,.int .i32 (Utf8.decode b p).1]⟩) env) D) ⟨s.ro,L++(r,.stringIter b (p+(Utf8.decode b p).2))::R⟩):ab C fn aB ops (i::rest) Q (A n env D) s:=by
 refine bV hC ho hw (by simp) ?_
 simp only[execOp,Instr.next,aa,aG hx]
 refine cH (o:= .stringIter b p) (.inr (by rw[hs];simp)) rfl rfl ?_
 simp only[aa,hp,if_true]
 refine eL (o:= .stringIter b (p+(Utf8.decode b p).2)) rfl hs rfl ?_
 rw[←aY] at h
 exact h
theorem aac(hC:∀main T,C main T→Closed P main T){r:Nat}{L R:Cells}(ho:ops[i]?=some ⟨dst,.next x true,ty,pos,db,g⟩) (hw:ay ops n env g=true) (hx:bp n env x=some (.pointer (some ⟨r,0,none⟩))) (hs:s.rw=L++(r,.stringIter b p)::R) (hp:¬p <b.size)
 (h:ab C fn aB ops rest Q (A n (upd dst (.tuple ⟨[.bool false]⟩) env) D) s):ab C fn aB ops (i::rest) Q (A n env D) s:=by
 refine bV hC ho hw (by simp) ?_
 simp only[execOp,Instr.next,aa,aG hx]
 refine cH (o:= .stringIter b p) (.inr (by rw[hs];simp)) rfl rfl ?_
 simp only[aa,hp,if_false]
 rw[←aY] at h
 exact h
end rules
end Go.L
