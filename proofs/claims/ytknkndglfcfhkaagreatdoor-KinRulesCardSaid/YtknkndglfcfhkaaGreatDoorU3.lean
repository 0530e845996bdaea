/- Part 3 of the proof. -/
import Derived.Test.YtknkndglfcfhkaaGreatDoorU2
import Derived.Conc.CrowdStepC
import Derived.Conc.Own2
import Derived.Conc.TokenWalk
set_option maxRecDepth 100000
set_option linter.all false
namespace Go.L
open Go Go.Conc
open Go.ConcR (KK wgBlock WgAt stA smA rd wr)
variable {P:Program} {s cs gY:List Frame} {f fr nA:Frame} {Q:Machine→Outcome→World→Trace→Prop} {ro:Nat→Option Obj} {ty:TypeId} {main:Bool} {α:Type} {rest l:List Code} {W lO id i p n off pc sz:Nat} {T:Goroutine→St→Prop} {vs ws:List Value} {x:Operand} {xs:Array Operand} {g:Goroutine} {ca args fi:Array Value} {todo:List Nat} {b:ByteArray} {z:Value} {ats at_:Array TypeId} {s':St} {o:Obj} {st sm:Int}
section
variable {ι:Type} {E:dM ι} {L:Nat→Option Obj} {K:Nat→St} {gs:Array Goroutine} {w:World} {t:Trace} {D:List (ar ι)} {d0:Nat} {main:Goroutine} {sl:Option (Nat×Nat)}
 {ic n:Nat} {g:Goroutine}
def Ig(E:dM ι)(pc:Nat)(K:Nat→St)(w:World)(t:Trace):Prop:=
 (∃sn tm,w.heap[E.Ch]?=some (.chan 0 #[] true sn sn tm))∧¬(K 0).knows E.Ch∧t.act? pc=some (.close E.Ch)∧t.heard pc∧(∀a,NoRelease a t)∧w.os=E.os∧w.output=E.out
theorem Hl(E:dM ι)(pc:Nat):YM (Ig E pc) where
 grow:=fun K w t u h hu=>⟨h.1,h.2.1,by rw[act?_old (lt_of_act? h.2.2.1)];exact h.2.2.1,(heard_old (lt_of_act? h.2.2.1)).2 h.2.2.2.1,fun a=>(h.2.2.2.2.1 a).app fun op ax=>hu op ax a,h.2.2.2.2.2⟩
 drawn:=fun K w t d h=>h
 le:=fun K w t s h hl=>⟨h.1,by rw[aB];exact fun hk=>h.2.1 (hl.knows hk),h.2.2⟩
 own:=fun K w t s' w' es u h ht hu=>by
  obtain⟨⟨sn,tm,hc⟩,hk,ha,hh,hn,QB⟩:=h
  have cK:=lt_size hc
  refine⟨⟨sn,tm,by rw[ht.frame _ cK fun ho=>hk (.inr ho)];exact hc⟩,?_,by rw[act?_old (lt_of_act? ha)];exact ha,(heard_old (lt_of_act? ha)).2 hh,fun a=>(hn a).app fun op ax=>hu op ax a,ht.os.trans QB.1,ht.output.trans QB.2⟩
  rw[aB]
  rintro(h'|h')
  ·rcases ht.Mb _ h' with h1|h1|h1
   ·omega
   ·exact hk (.inl h1)
   exact hk (.inr h1)
  rcases ht.own _ h' with h1|h1
  ·omega
  exact hk (.inr h1)
theorem Zu{r:ar ι}(h1:r.cnt=0)(h4:r.c4=0)(h3:r.c3=0)(h2:r.c2=0)(hc:r≠ .closer):∃q d c,r= .leave q d c:=by
 cases r with
 |leave q d c=>exact⟨q,d,c,rfl⟩
 |closer=>exact absurd rfl hc
 |st k n=>cases k<;>simp[ar.cnt,ar.c4,ar.c3,ar.c2] at h1 h4 h3 h2
 |_=>exact absurd h1 (by simp[ar.cnt])
theorem AcqAll.known(hA:AcqAll E t D ic)(hn:NoRelease (stA E.Wg) t){u:Trace}(hpc:t.size≤pc){y:MemOp}(hy:(t++u)[pc]?=some y) (hyg:y.g=ic+1) {r:ar ι} (hi:D[i]?=some r) (hc:r.cur=true)
 (hp:t.g? p=some (i+1)) (hct:t.counts p):HappensBefore (t++u) p pc:=by
 obtain⟨q,h1,h2,h3,h4⟩:=hA
 obtain⟨x,hx,hxq⟩:=h4 i r hi hc
 have hq:=lt_of_act? h1
 have hqg:=h2
 obtain⟨oq,hoq,hgq⟩:=Option.map_eq_some_iff.1 h2
 have aa4:HappensBefore t x q:= .single (.inr ⟨.marked hxq (.inr hx.act) h1 (fun k _ _=>hn k),hx.heard,h3⟩)
 have last:HappensBefore (t++u) q pc:=hb_po (by omega) (by rw[getElem?_append_old hq];exact hoq) hy (hgq.trans hyg.symm)
 have hle:p≤x:=Nat.le_of_not_lt fun cK=>hx.after p cK hp hct
 rcases Nat.lt_or_ge p x with cK|QZ
 ·exact((hb_app u (.trans (.single (.inl ⟨cK,_,hp,hx.g⟩)) aa4)).trans last)
 obtain rfl:p=x:=by omega
 exact(hb_app u aa4).trans last
def aeR(qc:Nat):ar ι→Nat
 | .leave q _ _=>q
 |_=>qc
theorem Inv.close(h:Inv E L K gs w t D 0 (some (ic,.run .leaf,n)) main d0){main':Goroutine}(hm:∀(a a':Goroutine) (w':World),mayWake E.P a=true→(a'.status= .running∨a'.status= .finished)→(∃sn tm,w'.heap[E.Ch]?=some (.chan 0 #[] true sn sn tm))→woken E.P a a' w' main=main')
 (hg:gs[ic+1]?=some g):
 ∃kS w' u q,runT E.P (crowd gs w sl) (ic+1)=(.next (crowd kS w' sl),u)∧Lv E.P (iU (t.size+1)) L (fun j=>if j=0 then K 0 else ⟨fun _=>none,[]⟩) kS w' (t++u) q∧kS[0]?=some main'∧Deaf (t++u) 0=d0∧
  Ig E (t.size+1) (fun j=>if j=0 then K 0 else ⟨fun _=>none,[]⟩) w' (t++u)∧ki D=[]:=by
 obtain⟨hic,GP,yQ,⟨gc,EZ,pw⟩,UT⟩:=h.sy.Ex
 obtain rfl:gc=g:=by rw[hg] at EZ;exact(Option.some.inj EZ).symm
 obtain⟨st,sm,ha,mG⟩:=h.sy.cells
 obtain⟨e1,e4,e3,e2,rfl,rfl⟩:=mG.run rfl trivial
 obtain⟨_,hs,hmw,g',bS,q,hq⟩:=pw
 obtain⟨sn,rc,tm,hc⟩:=h.sy.chan
 have avN:=h.sy.bal _ _ _ hc
 subst avN
 have hA:=UT ⟨_,rfl⟩
 have cK:=(List.getElem?_eq_some_iff.1 hic).1
 have Uu:∀k r,D[k]?=some r→k≠ic→∃q d c,r= .leave q d c:=fun k r hk dK=>by
  refine Zu ?_ ?_ ?_ ?_ fun e=>dK (GP k (e▸hk))
  ·have:=tK ar.cnt hk;omega
  ·have:=tK ar.c4 hk;omega
  ·have:=tK ar.c3 hk;omega
  have:=tK ar.c2 hk;omega
 have gp:=bS w sn sn tm hc
 have bU:=runT_crowd_go (P:=E.P) (sl:=sl) (i:=ic+1) hg (by simpa using gp)
 have q1:MemOp.ofEvents (ic+1) gc.frame.fn gc.frame.place #[⟨.obj E.Ch,false,true⟩,⟨.obj E.Ch,true,true⟩]= #[{g:=ic+1,fn:=gc.frame.fn,pos:=gc.frame.place,act:= .access ⟨.obj E.Ch,false,true⟩},{g:=ic+1,fn:=gc.frame.fn,pos:=gc.frame.place,act:= .close E.Ch}]:=by rw[ofEvents_eq];simp[MemAct.ofEvent]
 rw[q1] at bU
 generalize hu:(#[{g:=ic+1,fn:=gc.frame.fn,pos:=gc.frame.place,act:= .access ⟨.obj E.Ch,false,true⟩},{g:=ic+1,fn:=gc.frame.fn,pos:=gc.frame.place,act:= .close E.Ch}]:Trace)=u at bU
 have KC:∀op∈u,op.g=ic+1∧(op.act= .access ⟨.obj E.Ch,false,true⟩∨op.act= .close E.Ch):=by rw[←hu];intro op ax;simp at ax;rcases ax with rfl|rfl<;>simp
 have XB:∀op∈u,∀x,op.act.touch?=some x→x=⟨.obj E.Ch,false,.atomic⟩:=fun op ax x hx=>by
  rcases(KC op ax).2 with e|e<;>rw[e] at hx
  ·simp only[MemAct.touch?,if_true,Option.some.injEq] at hx;exact hx.symm
  cases hx
 have QS:∀op∈u,∀m,op.act≠ .mark m:=fun op ax m=>by rcases(KC op ax).2 with e|e<;>rw[e]<;>simp
 have aEF:E.Ch <w.heap.size:=lt_size hc
 have sO:(w.heap.setIfInBounds E.Ch (.chan 0 #[] true sn sn tm))[E.Ch]?=some (.chan 0 #[] true sn sn tm):=by simp[aEF]
 have hpc:(t++u)[t.size+1]?=some {g:=ic+1,fn:=gc.frame.fn,pos:=gc.frame.place,act:= .close E.Ch}:=by rw[←hu];simp
 have hle:∀j,((fun j=>if j=0 then K 0 else ⟨fun _=>none,[]⟩) j:St).le (K j):=fun j=>by
  by_cases e:j=0
  ·subst e;exact St.le_refl _
  simp only[if_neg e];exact⟨(K j).rw,by simp,fun b o hb=>(by cases hb)⟩
 have aN2:∀x:Goroutine,(x.status= .running∨x.status= .finished)→woken E.P gc g' {w with heap:=w.heap.setIfInBounds E.Ch (.chan 0 #[] true sn sn tm)} x=x:=fun x hx=>by
  unfold Go.Conc.woken
  split
  ·exact again_running _ hx
  rfl
 have ku:∀i r,D[i]?=some r→i≠ic→iU (t.size+1) (t++u) (i+1):=fun i r hi dK=>by
  obtain⟨x,hx,eZ⟩:=h.base.ok i r hi
  obtain⟨qq,d,c,rfl⟩:=Uu i r hi dK
  refine⟨by rw[←hu];simp,?_⟩
  cases c with
  |false=>exact .inl ((eZ.2.2.2.2 rfl).other fun op ax=>by rw[(KC op ax).1];omega)
  |true=>
   refine .inr fun p hp hct=>?_
   obtain⟨op,ho,hgo⟩:=Option.map_eq_some_iff.1 hp
   rcases getElem?_append_cases ho with ⟨Ux,_⟩| ⟨_,iP⟩
   ·exact hA.known (h.sy.norel _) (Nat.le_succ _) hpc rfl hi rfl (by rw[←g?_old (u:=u) Ux];exact hp) ((counts_old Ux).1 hct)
   rw[(KC op iP).1] at hgo;omega
 refine⟨_,_,u,D.map (aeR q),bU,⟨?_,by simp[h.base.size],fun k x hk=>?_,fun i b hi hk=>?_,fun op ax=>?_⟩,?_,?_,⟨⟨sn,tm,sO⟩,h.sy.kC 0,?_,?_,fun a=>(h.sy.norel a).app fun op ax=>QS op ax _,h.base.same.1,h.base.same.2⟩,?_⟩
 ·refine(h.base.fit.beside E.Ch (ic+1) h.sy.kC h.sy.lC aEF (by simp) (fun b hb _=>by simp[Ne.symm hb]) (fun op ax=>(KC op ax).1) fun op ax x hx=>?_).le hle
  obtain rfl:=XB op ax x hx
  refine⟨rfl,fun sd p a uv hc=>h.sy.plain _ (.inr ⟨ic,_,rfl,hic,rfl⟩) p a uv (.inr (by rw[hc.1];rfl)) ?_⟩
  rcases hc.2.2.2 with h3|h3|h3
  ·exact h3
  ·cases h3
  cases h3.2.2
 ·rw[List.getElem?_map] at hk
  obtain⟨r,hr,rfl⟩:=Option.map_eq_some_iff.1 hk
  by_cases dK:k=ic
  ·subst dK
   rw[hic] at hr
   cases hr
   refine⟨g',0,by simp[h.base.size,cK],hq,by rw[fM _ _ _ QS];exact yQ,by rw[←hu];simp,.inr fun p hp hct=>?_⟩
   obtain⟨op,ho,hgo⟩:=Option.map_eq_some_iff.1 hp
   rcases Nat.lt_or_ge p (t.size+1) with Ux|QZ
   ·exact hb_po Ux ho hpc hgo
   have hpe:p=t.size+1:=by
    have:=lt_size ho
    rw[←hu] at this
    simp at this
    omega
   subst hpe
   obtain⟨y,hy,_⟩:=hct
   obtain⟨o',EW,lG⟩:=touch_of hy
   rw[hpc] at EW;cases EW
   cases lG
  obtain⟨x,hx,eZ⟩:=h.base.ok k r hr
  have bV:=ku k r hr dK
  obtain⟨qq,d,c,rfl⟩:=Uu k r hr dK
  exact⟨x,d,by rw[fO (by omega) hx,aN2 x eZ.2.1.status],eZ.2.1,by rw[fM _ _ _ QS];exact eZ.2.2.1,bV⟩
 ·simp only[if_neg hi] at hk
  rcases hk with hk| ⟨o,ho⟩
  ·exact hk rfl
  cases ho
 ·rw[Array.size_setIfInBounds,Array.size_map]
  rcases Array.mem_append.1 ax with h'|h'
  ·exact h.base.ops op h'
  rw[(KC op h').1,h.base.size];omega
 ·rw[fO (by omega) h.main,hm _ _ _ hmw hq.status ⟨sn,tm,sO⟩]
 ·rw[fM _ _ _ QS];exact h.deaf
 ·rw[act?_of hpc]
 ·refine⟨ic+1,by simp[Trace.g?,hpc],?_⟩
  have e2:t++u=(t++ #[({g:=ic+1,fn:=gc.frame.fn,pos:=gc.frame.place,act:= .access ⟨.obj E.Ch,false,true⟩}:MemOp)])++ #[({g:=ic+1,fn:=gc.frame.fn,pos:=gc.frame.place,act:= .close E.Ch}:MemOp)]:=by rw[←hu,Array.append_assoc];rfl
  have e3:=fM t (ic+1) #[({g:=ic+1,fn:=gc.frame.fn,pos:=gc.frame.place,act:= .access ⟨.obj E.Ch,false,true⟩}:MemOp)] (by intro op ax m;simp only[List.mem_toArray,List.mem_singleton] at ax;subst ax;simp)
  rw[e2,deaf_old (by simp)]
  unfold Deaf at e3 yQ
  rw[Array.size_append] at e3
  exact e3.trans yQ
 unfold ki
 rw[List.filterMap_eq_nil_iff]
 intro r hr
 obtain⟨k,hk⟩:=List.getElem?_of_mem hr
 by_cases dK:k=ic
 ·subst dK;rw[hic] at hk;cases hk;rfl
 obtain⟨qq,d,c,rfl⟩:=Uu k r hk dK;rfl
end
section
variable {ι:Type} {E:dM ι} {L:Nat→Option Obj} {K:Nat→St} {gs:Array Goroutine} {w w':World} {t u:Trace} {D:List (ar ι)} {pend d0:Nat} {cl:zk} {main:Goroutine} {sl:Option (Nat×Nat)}
 {i:Nat} {g g':Goroutine} {es:Array Event}
def PLt(mx:Nat):List (ar ι)×zk→List (ar ι)×zk→Prop:=Prod.Lex (One ub) (InvImage EB (mW mx))
theorem PLt.wf(mx:Nat):WellFounded (PLt (ι:=ι) mx):=(Prod.lex ⟨_,One.wf ub.wf⟩ ⟨_,InvImage.wf (mW mx) EB.wf⟩).wf
theorem Inv.other(h:Inv E L K gs w t D pend cl main d0)(hm:gx E main)(hg:gs[i+1]?=some g) (hs:g.status= .running) (B6:D[i]?≠some (.back .leaf)) (Ds:∀n,cl≠some (i,.run .leaf,n))
 (hw:(∃o,D[i]?=some (.work o .leaf))→main.status= .running):
 ∃K' kS w' u D' cl',runT E.P (crowd gs w sl) (i+1)=(.next (crowd kS w' sl),u)∧Inv E L K' kS w' (t++u) D' pend cl' main d0∧K' 0=K 0∧ki D'=ki D∧cl'.isSome=cl.isSome∧PLt E.max (D',cl') (D,cl)∧∀o,ar.gk o∈D'→ar.gk o∈D∨main.status= .running:=by
 have cK:i <D.length:=by have:=lt_size hg;have:=h.base.size;omega
 have hD:D[i]?=some D[i]:=List.getElem?_eq_getElem cK
 have fin:qu E L K D pend cl main d0 (crowd gs w sl) sl t (i+1)→
  ∃K' kS w' u D' cl',runT E.P (crowd gs w sl) (i+1)=(.next (crowd kS w' sl),u)∧Inv E L K' kS w' (t++u) D' pend cl' main d0∧K' 0=K 0∧ki D'=ki D∧cl'.isSome=cl.isSome∧PLt E.max (D',cl') (D,cl)∧∀o,ar.gk o∈D'→ar.gk o∈D∨main.status= .running:=by
  rintro⟨K',kS,w',u,D',cl',h1,h2,h3,h4,h5,h6,h7,h8⟩
  refine⟨K',kS,w',u,D',cl',h1,h2,h3,h4,?_,Prod.Lex.left _ _ h5,h8⟩
  cases hc:cl with
  |none=>rw[h6 hc]
  |some x=>have:=h7 (by rw[hc];simp);cases cl'<;>simp_all
 obtain⟨x,hx,eZ⟩:=h.base.ok i _ hD
 obtain rfl:x=g:=by rw[hg] at hx;exact(Option.some.inj hx).symm
 generalize hr:D[i]=r at hD eZ
 match r,hD,eZ with
 | .leave q d c,hD,eZ=>exact fin (h.leave hm hD hg hs)
 | .work o (.node f),hD,eZ=>exact fin (h.work hm hD hg)
 | .work o .leaf,hD,eZ=>exact fin (h.Zo (hw ⟨o,hD⟩) hD hg)
 | .gk o,hD,⟨_,uL,p9,v,zs,X,Y,e,_⟩=>rw[e] at hs;cases hs
 | .back (.node f),hD,eZ=>exact fin (h.back hm hD hg)
 | .back .leaf,hD,eZ=>exact absurd hD B6
 | .st k (n+1),hD,eZ=>exact fin (h.arR hm hD hg)
 | .st .r0 0,hD,eZ=>exact fin (h.r0 hm hD hg)
 | .st .k1 0,hD,eZ=>exact fin (h.k1 hm hD hg)
 | .st .d1 0,hD,eZ=>exact fin (h.d1 hm hD hg)
 | .st .d2 0,hD,eZ=>exact fin (h.d2 hm hD hg)
 | .st .d3 0,hD,eZ=>exact fin (h.d3 hm hD hg)
 | .st .d4 0,hD,eZ=>exact fin (h.d4 hm hD hg)
 | .closer,hD,eZ=>
  have iQ:=h.sy.Ex
  match cl,h,iQ,Ds with
  |none,h,iQ,_=>exact(iQ _ (List.mem_of_getElem? hD)).elim
  |some (ic,c,n),h,⟨_,hu,_,_,_⟩,Ds=>
   have e:=hu i hD
   subst e
   obtain⟨K',kS,w',u,c',n',h1,h2,h3,h4⟩:=h.closer (sl:=sl) hm hg hs fun e=>Ds n (by rw[e])
   exact⟨K',kS,w',u,D,_,h1,h2,h3,rfl,rfl,Prod.Lex.right _ h4,fun _ h=> .inl h⟩
theorem Inv.awake(h:Inv E L K gs w t D pend cl main d0)(hm:gx E main):∀x∈gs,Go.Conc.awake x:=by
 intro x hx
 obtain⟨j,hj,rfl⟩:=Array.mem_iff_getElem.1 hx
 have hj':gs[j]?=some gs[j]:=Array.getElem?_eq_getElem hj
 intro k
 cases j with
 |zero=>
  rw[h.main] at hj'
  rw[←Option.some.inj hj']
  rcases hm with e| ⟨m,z,rfl⟩
  ·rw[e];simp
  simp[parked]
 |succ j=>
  have cK:j <D.length:=by have:=h.base.size;omega
  have hD:D[j]?=some D[j]:=List.getElem?_eq_getElem cK
  obtain⟨y,hy,eZ⟩:=h.base.ok j _ hD
  rw[hj'] at hy
  rw[Option.some.inj hy]
  by_cases hb:∃o,D[j]= .gk o
  ·obtain⟨o,e⟩:=hb
   rw[e] at eZ
   obtain⟨_,uL,p9,v,zs,X,Y,rfl,_⟩:=eZ
   simp[parked]
  by_cases hc:D[j]= .closer
  ·have iQ:=h.sy.Ex
   match cl,iQ with
   |none,iQ=>
    have:=iQ D[j] (List.mem_of_getElem? hD)
    rw[hc] at this
    exact this.elim
   |some (ic,c,n),⟨_,h2,_,⟨gc,EZ,pw⟩,_⟩=>
    have e:=h2 j (by rw[hD,hc])
    subst e
    rw[hj',hy] at EZ
    obtain rfl:=Option.some.inj EZ
    by_cases agP:c= .blk
    ·subst agP
     obtain⟨_,uL,apY,e⟩:=pw
     rw[e];simp
    rw[CK.tZ pw agP];simp
  rcases eZ.running (fun o e=>hb ⟨o,e⟩) hc with e|e<;>rw[e]<;>simp
theorem Inv.le0(h:Inv E L K gs w t D pend cl main d0){s:St}(hl:s.le (K 0)):Inv E L (fE K 0 s) gs w t D pend cl main d0:=by
 have hle:∀j,(fE K 0 s j).le (K j):=fun j=>by
  by_cases e:j=0
  ·subst e;rw[aB];exact hl
  rw[aG _ _ e];exact St.le_refl _
 refine⟨⟨h.base.fit.le hle,h.base.size,fun k r hk=>?_,fun k hk b hb=>h.base.far k hk b ((hle k).knows hb),h.base.ops,h.base.same⟩,
  ⟨fun j hj=>h.sy.kW j ((hle j).knows hj),fun j hj=>h.sy.kC j ((hle j).knows hj),h.sy.lW,h.sy.lC,h.sy.ne,h.sy.norel,h.sy.plain,h.sy.said,h.sy.cells,h.sy.BQ,h.sy.chan,h.sy.bal,?_⟩,h.main,h.deaf⟩
 ·rw[aG _ _ (by omega)];exact h.base.ok k r hk
 have iQ:=h.sy.Ex
 match cl,iQ with
 |none,iQ=>exact iQ
 |some (ic,c,n),⟨h1,h2,h3,⟨gc,EZ,pw⟩,h5⟩=>exact⟨h1,h2,h3,⟨gc,EZ,by rw[aG _ _ (by omega)];exact pw⟩,h5⟩
def TC(E:dM ι)(L:Nat→Option Obj)(Q:Machine→Outcome→World→Trace→Prop)(pend:Nat)(b:Bool)(os:List ι)(d0:Nat)(g:Goroutine)(s:St):Prop:=
 ∀K gs w t D cl sl,cl.isSome=b→Inv E L K gs w t D pend cl g d0→ki D=os→s.le (K 0)→Ends E.P Q (crowd gs w sl) t
theorem wJ{b:Bool}{os:List ι}{s:St}(hs:g.status= .running)
 (h:∀K gs w t D cl sl m,cl.isSome=b→Inv E L K gs w t D pend cl g d0→ki D=os→K 0=s→stepT E.P m=runT E.P (crowd gs w sl) 0→Ends E.P Q m t)
 (iD:b=true→pend=0∧d0=0∧(os=[]→∀pc,TL E.P (iU pc) L (Ig E pc) Q g s)):TC E L Q pend b os d0 g s:=by
 intro K gs w t D cl sl hb hI ho hle
 have key:∀μ:List (ar ι)×zk,∀K gs w t sl,μ.2.isSome=b→Inv E L K gs w t μ.1 pend μ.2 g d0→ki μ.1=os→K 0=s→Ends E.P Q (crowd gs w sl) t:=by
  intro μ
  induction μ using (PLt.wf E.max).induction with
  |_ μ ih=>
   obtain⟨D,cl⟩:=μ
   intro K gs w t sl hb hI ho hK
   simp only at hb hI ho
   obtain⟨i,eV,d,Sm,dg,GQ,bS⟩:=crowd_pick (P:=E.P) (gs:=gs) (w:=w) (sl:=sl) (hI.awake (.inl hs)) ⟨0,g,hI.main,hs⟩
   have yS:=hI.at d
   cases i with
   |zero=>exact h K gs _ t D cl Sm _ hb yS ho hK bS
   |succ i=>
    by_cases E3:D[i]?=some (.back .leaf)
    ·obtain⟨n,h1,h2,h3⟩:=hI.norm E3
     exact ih (_,cl) (Prod.Lex.left _ _ h3) _ gs w t sl hb h1 (h2.trans ho) (by rw[aG _ _ (by omega)];exact hK)
    by_cases hc:∃n,cl=some (i,.run .leaf,n)
    ·obtain⟨n,e⟩:=hc
     subst e
     obtain⟨hp,hd,hT⟩:=iD (by rw[←hb];rfl)
     subst hp
     obtain⟨kS,w',u,q,hr,hL,h0,hdd,hG,s9⟩:=yS.close (sl:=Sm) (main':=g) (fun a a' w' _ _ _=>by
      unfold Go.Conc.woken
      split
      ·exact again_running _ (.inl hs)
      rfl) dg
     exact Ends.next (bS.trans hr) (hT (ho.symm.trans s9) (t.size+1) _ kS w' _ q Sm hL h0 (by simp only[if_true];rw[hK];exact St.le_refl _) (by rw[hdd];exact hd) hG)
    obtain⟨K',kS,w',u,D',cl',hr,Nz,mb,Im,fK,cK,_⟩:=yS.other (sl:=Sm) (.inl hs) dg GQ E3 (fun n e=>hc ⟨n,e⟩) (fun _=>hs)
    exact Ends.next (bS.trans hr) (ih (D',cl') cK K' kS w' _ Sm (fK.trans hb) Nz (Im.trans ho) (mb.trans hK))
 exact key (D,cl) _ gs w t sl hb (hI.le0 hle) ho (aB _ _ _)
end
section
variable {ι:Type} {E:dM ι} {L:Nat→Option Obj} {Q:Machine→Outcome→World→Trace→Prop} {g:Goroutine} {s:St}
theorem V8(UX:L E.Ch=none){x:Goroutine}(hx:x.status= .running)(bS:∀w,aR s w→stepG E.P true x w= .comm g #[rcase E.Ch z] true (.recv true) w #[])
 (mI:∀w,aR s w→(∀b o,L b=some o→w.heap[b]?=some o)→aR s' w) (zf:∀b,s'.knows b→L b≠none∨s.knows b)
 (hT:TL E.P ep (fun _=>none) (Calm E.os E.out) Q (Conc.served g (.tuple #[z,.bool false])) s'):TL E.P (iU pc) L (Ig E pc) Q x s:=by
 refine LQ (Rf pc) (Hl E pc) hx fun K gs w t q sl m hL h0 hK hd hG hm _=>?_
 subst hK
 obtain⟨⟨sn,tm,hc⟩,hkC,ane,ave,aCV,afK⟩:=hG
 have Io:partners (gs.setIfInBounds 0 ph) E.Ch true=[]:=partners_nil fun j y hy=>by
  rcases getElem?_stand gs _ _ _ hy with ⟨_,rfl⟩| ⟨hj,hy'⟩
  ·exact offersAt_ph _ _
  cases j with
  |zero=>exact absurd rfl hj
  |succ j=>
   have cK:j <q.length:=by have:=lt_size hy';have:=hL.size;omega
   obtain⟨y',d,hy2,hq,_⟩:=hL.ok j _ (List.getElem?_eq_getElem cK)
   rw[hy'] at hy2
   rw[Option.some.inj hy2]
   exact qN hq.status _ _
 have bU:=crowd_recv_closed (sl:=sl) h0 (by simpa using bS w (hL.fit.jC 0)) hc Io
 have e0:MemOp.ofEvents 0 x.frame.fn x.frame.place #[]= #[]:=rfl
 rw[e0,Array.empty_append] at bU
 generalize hu:(#[{g:=0,fn:=g.frame.fn,pos:=g.frame.place,act:= .recvClosed E.Ch}]:Trace)=u at bU
 have KC:∀op∈u,op.g=0∧op.act= .recvClosed E.Ch:=by rw[←hu];intro op ax;simp at ax;subst ax;exact⟨rfl,rfl⟩
 have XB:∀op∈u,op.act.touch?=none:=fun op ax=>by rw[(KC op ax).2];rfl
 have QS:∀op∈u,∀m,op.act≠ .mark m:=fun op ax m=>by rw[(KC op ax).2];simp
 have hr:(t++u)[t.size]?=some {g:=0,fn:=g.frame.fn,pos:=g.frame.place,act:= .recvClosed E.Ch}:=by rw[←hu];simp
 have apM:=lt_of_act? ane
 have aa4:HappensBefore (t++u) pc t.size:= .single (.inr ⟨.closed (c:=E.Ch) (by rw[act?_old apM];exact ane) (by rw[act?_of hr]),(heard_old apM).2 ave,⟨0,by simp[Trace.g?,hr],by rw[deaf_old (Nat.le_refl _)];exact hd⟩⟩)
 have dc:∀i n,q[i]?=some n→ep (t++u) (i+1):=fun i n hi=>by
  obtain⟨y,d,hy,hq,hdd,hk⟩:=hL.ok i n hi
  rcases hk.2 with hk|hk
  ·exact hk.quiet XB
  intro p hp hct
  obtain⟨op,ho,hgo⟩:=Option.map_eq_some_iff.1 hp
  rcases getElem?_append_cases ho with ⟨Ux,_⟩| ⟨_,iP⟩
  ·exact⟨t.size,by simp[Trace.g?,hr],(hb_app u (hk p (by rw[←g?_old (u:=u) Ux];exact hp) ((counts_old Ux).1 hct))).trans aa4⟩
  rw[(KC op iP).1] at hgo;omega
 have mJ:=hL.fit.quiet (u:=u) (w':=w) E.Ch (fun j=>by
  by_cases e:j=0
  ·subst e;exact hkC
  exact hL.none j _ e) UX (Nat.le_refl _) (fun _ _ _=>rfl) XB
 refine Ends.next (hm.trans bU) (hT (fE K 0 s') _ w _ q sl ⟨?_,by simp[hL.size],fun i n hi=>?_,fun i b hi hk=>?_,fun op ax=>?_⟩ ?_ (by rw[aB];exact St.le_refl _) (by rw[fM _ _ _ QS];exact hd) ⟨fun a=>(aCV a).app fun op ax=>QS op ax _,afK⟩)
 ·refine mJ.alone (i:=0) (fun j hj b=>hL.none j b hj) s' (mI w (hL.fit.jC 0) hL.fit.D7) zf fun b hb p y hy Sv hyb=>?_
  obtain⟨op,ho,hyo⟩:=touch_of hy
  have cK:op.g <gs.size:=by
   rcases Array.mem_append.1 (mem_of_getElem? ho) with h'|h'
   ·exact hL.ops op h'
   rw[(KC op h').1,hL.size];omega
  cases hgo:op.g with
  |zero=>have:=knows_own ho;rwa[hgo] at this
  |succ k=>
   have hk:k <q.length:=by have:=hL.size;omega
   obtain⟨j,hj,ma⟩:=dc k _ (List.getElem?_eq_getElem hk) p (by simp[Trace.g?,ho,hgo]) ⟨y,by simpa [touchAt] using hy,by cases hl:y.loc<;>simp_all[blk,Loc.isMemory],.inl (by rw[Sv];simp)⟩
   obtain⟨z',D9,hzg⟩:=Option.map_eq_some_iff.1 hj
   exact⟨j,z',D9,hzg,.inr ma⟩
 ·obtain⟨y,d,hy,hq,hdd,hk⟩:=hL.ok i n hi
  exact⟨y,d,by rw[Array.getElem?_setIfInBounds_ne (by omega)];exact hy,hq,by rw[fM _ _ _ QS];exact hdd,dc i n hi⟩
 ·rw[aG _ _ hi] at hk;exact hL.none i b hi hk
 ·rw[Array.size_setIfInBounds]
  rcases Array.mem_append.1 ax with h'|h'
  ·exact hL.ops op h'
  rw[(KC op h').1,hL.size];omega
 have:0 <gs.size:=by rw[hL.size];omega
 simp[this,finishComm_recv,recvd]
end
section
variable {ι:Type} {E:dM ι} {L:Nat→Option Obj} {K:Nat→St} {gs:Array Goroutine} {w w':World} {t:Trace} {D:List (ar ι)} {pend d0:Nat} {cl:zk} {main:Goroutine} {sl:Option (Nat×Nat)}
 {i:Nat} {Q:Machine→Outcome→World→Trace→Prop} {g:Goroutine} {s:St}
theorem setChan_at(w:World)(d c:Nat)(h:c <w.heap.size)(sn rc:Nat)(tm:Bool):
 ((w.at d).setChan c 0 #[] false sn rc tm).heap[c]?=some (.chan 0 #[] false sn rc tm)∧((w.at d).setChan c 0 #[] false sn rc tm).heap.size=w.heap.size∧
 ∀b,b≠c→((w.at d).setChan c 0 #[] false sn rc tm).heap[b]?=w.heap[b]?:=by
 refine⟨by simp[World.setChan,World.at,h],by simp[World.setChan,World.at],fun b hb=>by simp[World.setChan,World.at,Ne.symm hb]⟩
theorem Inv.alive(h:Inv E L K gs w t D 0 cl main d0)(iD:cl≠none)(hn:∀o,ar.gk o∉D):∃(i:Nat) (x:Goroutine),gs[i]?=some x∧x.status= .running:=by
 by_cases dc:∀r∈D,r.left=true∨r= .closer
 ·have iQ:=h.sy.Ex
  obtain⟨st,sm,_,mG⟩:=h.sy.cells
  match cl,iQ,mG,iD with
  |some (ic,c,n),⟨_,_,_,⟨gc,EZ,pw⟩,_⟩,mG,_=>
   refine⟨_,gc,EZ,CK.tZ pw fun e=>?_⟩
   subst e
   have z:∀(f:ar ι→Nat),(∀q d c,f (.leave q d c)=0)→f .closer=0→fe f D=0:=fun f h1 h2=>by
    unfold fe
    rw[List.sum_eq_zero_iff_forall_eq_nat]
    intro x hx
    obtain⟨r,hr,rfl⟩:=List.mem_map.1 hx
    rcases dc r hr with e|rfl
    ·cases r<;>first|exact h1 _ _ _|cases e
    exact h2
   have z1:=z ar.cnt (fun _ _ _=>rfl) rfl
   have z4:=z ar.c4 (fun _ _ _=>rfl) rfl
   have z3:=z ar.c3 (fun _ _ _=>rfl) rfl
   have z2:=z ar.c2 (fun _ _ _=>rfl) rfl
   rw[z1,z4,z3,z2] at mG
   simp only[Option.map_some] at mG
   generalize ho:some CK.blk=o at mG
   generalize h0:0+0=k at mG
   cases mG with
   |reg _ h2=>omega
   |sema _ h2=>cases ho;exact h2 rfl
   |over h1=>cases ho;exact h1.elim
   |_=>cases ho
 obtain⟨r,lH⟩:=Classical.not_forall.1 dc
 obtain⟨hr,Ix⟩:=Classical.not_imp.1 lH
 have h1:¬r.left=true:=fun e=>Ix (.inl e)
 have h2:r≠ .closer:=fun e=>Ix (.inr e)
 obtain⟨k,hk⟩:=List.getElem?_of_mem hr
 obtain⟨x,hx,eZ⟩:=h.base.ok k r hk
 refine⟨_,x,hx,?_⟩
 cases r with
 |leave q d c=>exact absurd rfl h1
 |work o tr=>exact oz.running (fun _ _ y=>y.1) eZ.2
 |gk o=>exact absurd hr (hn o)
 |back tr=>exact oz.running (fun _ _ y=>dM.pure.running (fun _ z=>z.1) y) eZ.2
 |st k n=>exact Pure.running (WK.running k) eZ.2.2.1
 |closer=>exact absurd rfl h2
theorem Inv.Zp(h:Inv E L K gs w t D pend cl (parked g #[rcase E.Ch z] (.recv true)) 0)(iD:cl≠none){o:ι}{gw:Goroutine}(hi:D[i]?=some (.work o .leaf)) (hg:gs[i+1]?=some gw):
 ∃K' kS w' u D' v X a b,runT E.P (crowd gs w sl) (i+1)=(.next (crowd kS w' sl),u)∧Inv E L K' kS w' (t++u) D' pend cl (Conc.served g (.tuple #[v,.bool true])) 0∧K' 0=⟨(K 0).ro,X++(K 0).rw⟩∧
  E.VP o v X∧ki D=a++o::b∧ki D'=a++b:=by
 obtain⟨eV,dg,eZ⟩:=h.base.ok i _ hi
 obtain rfl:eV=gw:=by rw[hg] at dg;exact(Option.some.inj dg).symm
 obtain⟨hd,hs,p9,v,zs,X,Y,hXY,n7,bS,tr,gV,hle,xN⟩:=eZ
 obtain⟨sn,rc,tm,hc⟩:=h.sy.chan
 have uI:=h.base.size
 have aM3:partners (gs.setIfInBounds (i+1) ph) E.Ch false=[(0,0)]:=by
  have h0:(gs.setIfInBounds (i+1) ph)[0]?=some (parked g #[rcase E.Ch z] (.recv true)):=stand_get (by omega) h.main
  rw[partners_one h0 fun k x hk hx=>?_]
  ·rw[offersAt_parked_recv];simp
  rcases getElem?_stand gs _ _ _ hx with ⟨_,rfl⟩| ⟨_,lG⟩
  ·exact offersAt_ph _ _
  cases k with
  |zero=>exact absurd rfl hk
  |succ k=>
   rcases h.offers lG with ⟨o',g',v',zs',_,rfl⟩|hn
   ·exact offersAt_parked_send' _ _ _ _ _ _
   exact hn _ _
 have bU:=crowd_send_meets (sl:=sl) hg (by simpa using bS w (h.base.fit.jC _)) hc (by omega) h.main aM3
 have e0:MemOp.ofEvents (i+1) eV.frame.fn eV.frame.place #[]= #[]:=rfl
 rw[e0,Array.empty_append] at bU
 obtain⟨a,b,ha,hb⟩:=BJ (r':=ar.back tr) rfl hi (o:=o) rfl
 have hwc:=setChan_at w w.drawn E.Ch (lt_size hc) (sn+1) (rc+1) tm
 refine⟨_,_,_,_,_,v,X,a,b,bU,h.meet iD hi (.inl rfl) hd hXY hle xN (by simp) ?_ ?_ (fun k h1 h2=>?_) hc hwc.1 hwc.2.1 hwc.2.2 ⟨rfl,rfl⟩ ⟨rfl,rfl⟩ ⟨rfl,rfl⟩ ⟨rfl,rfl⟩ ⟨rfl,rfl⟩,aB _ _ _,n7,ha,hb⟩
 ·rw[Array.getElem?_setIfInBounds_ne (by omega),Array.getElem?_setIfInBounds_self_of_lt (by omega)]
  rw[finishComm_recv];rfl
 ·rw[Array.getElem?_setIfInBounds_self_of_lt (by have:=lt_size hg;simpa using this)]
  rw[finishComm_send]
 rw[Array.getElem?_setIfInBounds_ne (Ne.symm h2),Array.getElem?_setIfInBounds_ne (Ne.symm h1)]
theorem PQ{os:List ι}
 (KE:∀a o b v X,os=a++o::b→E.VP o v X→TC E L Q 0 true (a++b) 0 (Conc.served g (.tuple #[v,.bool true])) ⟨s.ro,X++s.rw⟩)
 (pZ:os=[]→∀pc,TL E.P (iU pc) L (Ig E pc) Q {parked g #[rcase E.Ch z] (.recv true) with status:= .running} s):
 ∀(μ:List (ar ι)×zk) K gs w t sl,μ.2.isSome=true→Inv E L K gs w t μ.1 0 μ.2 (parked g #[rcase E.Ch z] (.recv true)) 0→ki μ.1=os→K 0=s→(∀o,ar.gk o∉μ.1)→Ends E.P Q (crowd gs w sl) t:=by
 intro μ
 induction μ using (PLt.wf E.max).induction with
 |_ μ ih=>
  obtain⟨D,cl⟩:=μ
  intro K gs w t sl hb hI ho hK hn
  simp only at hb hI ho hn
  have iD:cl≠none:=fun e=>by rw[e] at hb;cases hb
  have QQ:gx E (parked g #[rcase E.Ch z] (.recv true)):= .inr ⟨g,z,rfl⟩
  obtain⟨i,eV,d,Sm,dg,GQ,bS⟩:=crowd_pick (P:=E.P) (gs:=gs) (w:=w) (sl:=sl) (hI.awake QQ) (hI.alive iD hn)
  have yS:=hI.at d
  cases i with
  |zero=>rw[hI.main] at dg;rw[←Option.some.inj dg] at GQ;cases GQ
  |succ i=>
   by_cases E3:D[i]?=some (.back .leaf)
   ·obtain⟨n,h1,h2,h3⟩:=hI.norm E3
    refine ih (_,cl) (Prod.Lex.left _ _ h3) _ gs w t sl hb h1 (h2.trans ho) (by rw[aG _ _ (by omega)];exact hK) fun o hm=>?_
    rcases List.mem_or_eq_of_mem_set hm with h'|h'
    ·exact hn o h'
    cases h'
   by_cases hc:∃n,cl=some (i,.run .leaf,n)
   ·obtain⟨n,e⟩:=hc
    subst e
    obtain⟨kS,w',u,q,hr,hL,h0,hdd,hG,s9⟩:=yS.close (sl:=Sm) (main':={parked g #[rcase E.Ch z] (.recv true) with status:= .running}) (fun a a' w' hmw mI ⟨sn,tm,sO⟩=>by
     have:(mayWake E.P a&&a'.status != .blocked&&a'.status != .waiting)=true:=by rcases mI with e|e<;>simp[hmw,e]
     unfold Go.Conc.woken
     rw[if_pos this]
     exact again_recv_closed sO) dg
    exact Ends.next (bS.trans hr) (pZ (ho.symm.trans s9) (t.size+1) _ kS w' _ q Sm hL h0 (by simp only[if_true];rw[hK];exact St.le_refl _) (by rw[hdd]) hG)
   by_cases Ee:∃o,D[i]?=some (.work o .leaf)
   ·obtain⟨o,hi⟩:=Ee
    obtain⟨K',kS,w',u,D',v,X,a,b,hr,Nz,mb,n7,ha,ma⟩:=yS.Zp (sl:=Sm) iD hi dg
    refine Ends.next (bS.trans hr) (KE a o b v X (ho.symm.trans ha) n7 K' kS w' _ D' cl Sm hb Nz ma ?_)
    rw[mb,hK];exact St.le_refl _
   obtain⟨K',kS,w',u,D',cl',hr,Nz,mb,Im,fK,cK,hsb⟩:=yS.other (sl:=Sm) QQ dg GQ E3 (fun n e=>hc ⟨n,e⟩) (fun hx=>absurd hx Ee)
   refine Ends.next (bS.trans hr) (ih (D',cl') cK K' kS w' _ Sm (fK.trans hb) Nz (Im.trans ho) (mb.trans hK) fun o hm=>?_)
   rcases hsb o hm with h'|h'
   ·exact hn o h'
   cases h'
theorem Wd{os:List ι}(hs:g.status= .running)(bS:∀w,aR s w→stepG E.P true g w= .comm g #[rcase E.Ch z] true (.recv true) w #[])
 (KE:∀a o b v X,os=a++o::b→E.VP o v X→TC E L Q 0 true (a++b) 0 (Conc.served g (.tuple #[v,.bool true])) ⟨s.ro,X++s.rw⟩)
 (pZ:os=[]→∀pc,TL E.P (iU pc) L (Ig E pc) Q g s∧TL E.P (iU pc) L (Ig E pc) Q {parked g #[rcase E.Ch z] (.recv true) with status:= .running} s):TC E L Q 0 true os 0 g s:=by
 refine wJ hs (fun K gs w t D cl sl m hb hI ho hK hm=>?_) fun _=>⟨rfl,rfl,fun h pc=>(pZ h pc).1⟩
 have iD:cl≠none:=fun e=>by rw[e] at hb;cases hb
 obtain⟨sn,rc,tm,hc⟩:=hI.sy.chan
 have hgo:=bS w (hK▸hI.base.fit.jC 0)
 have e0:MemOp.ofEvents 0 g.frame.fn g.frame.place #[]= #[]:=rfl
 by_cases dK:partners (gs.setIfInBounds 0 ph) E.Ch true=[]
 ·have bU:=crowd_waits (sl:=sl) hI.main (by simpa using hgo) (fun cc uu=>by
   simp only[List.mem_toArray,List.mem_singleton] at uu
   subst uu
   exact ways_recv_none hc dK)
  rw[e0] at bU
  have uI:=hI.base.size
  refine Ends.next (hm.trans bU) (PQ KE (fun h pc=>(pZ h pc).2) (D,cl) K _ w _ sl hb ⟨⟨?_,by simp[uI],fun k r hk=>?_,fun k hk=>hI.base.far k (by simpa using hk),fun op ax=>?_,hI.base.same⟩,?_,?_,?_⟩ ho hK fun o hm=>?_)
  ·rw[Array.append_empty];exact hI.base.fit
  ·obtain⟨x,hx,eZ⟩:=hI.base.ok k r hk
   exact⟨x,by rw[Array.getElem?_setIfInBounds_ne (by omega)];exact hx,by rw[Array.append_empty];exact eZ⟩
  ·rw[Array.append_empty] at ax;rw[Array.size_setIfInBounds];exact hI.base.ops op ax
  ·rw[Array.append_empty]
   refine⟨hI.sy.kW,hI.sy.kC,hI.sy.lW,hI.sy.lC,hI.sy.ne,hI.sy.norel,hI.sy.plain,hI.sy.said,hI.sy.cells,hI.sy.BQ,hI.sy.chan,hI.sy.bal,?_⟩
   have iQ:=hI.sy.Ex
   match cl,iQ with
   |none,iQ=>exact iQ
   |some (ic,c,n),⟨h1,h2,h3,⟨gc,EZ,pw⟩,h5⟩=>exact⟨h1,h2,h3,⟨gc,by rw[Array.getElem?_setIfInBounds_ne (by omega)];exact EZ,pw⟩,h5⟩
  ·rw[Array.getElem?_setIfInBounds_self_of_lt (by omega)]
  ·rw[Array.append_empty];exact hI.deaf
  obtain⟨k,hk⟩:=List.getElem?_of_mem hm
  obtain⟨x,hx,_,uL,p9,v,zs,X,Y,rfl,_⟩:=hI.base.ok k _ hk
  have:((k+1,0):Nat×Nat)∈partners (gs.setIfInBounds 0 ph) E.Ch true:=mem_partners.2 ⟨_,stand_get (by omega) hx,by rw[offersAt_parked_send];simp⟩
  rw[dK] at this;cases this
 obtain⟨j,gj,vj,zj,shj,d,hj0,hj,bU⟩:=crowd_recv_meets_some (sl:=sl) hI.main (by simpa using hgo) hc dK fun j k OH=>by
  obtain⟨x,hx,hk⟩:=mem_partners.1 OH
  rcases getElem?_stand gs _ _ _ hx with ⟨_,rfl⟩| ⟨hj0,lG⟩
  ·rw[offersAt_ph] at hk;cases hk
  cases j with
  |zero=>exact absurd rfl hj0
  |succ j=>
   rcases hI.offers lG with ⟨o',g',v',zs',_,rfl⟩|hn
   ·rw[offersAt_parked_send] at hk
    simp at hk
    exact⟨hk,by omega,_,_,_,_,lG⟩
   rw[hn] at hk;cases hk
 rw[e0,Array.empty_append] at bU
 cases j with
 |zero=>exact absurd rfl hj0
 |succ i=>
  rcases hI.offers hj with ⟨o,p9,v,zs,hi,e⟩|hn
  ·obtain⟨x,hx,yQ,uL,aEK,v',zs',X,Y,e',hXY,n7,_,tr,gV,hle,xN⟩:=hI.base.ok i _ hi
   obtain rfl:x=parked gj #[scase E.Ch vj zj] shj:=by rw[hj] at hx;exact(Option.some.inj hx).symm
   have hv:vj=v':=by
    have:=congrArg Goroutine.offers e'
    simp only[parked,scase,Option.some.injEq,Prod.mk.injEq,Array.mk.injEq,List.cons.injEq,CommCase.mk.injEq] at this
    exact this.1.1.2.1
   have hsv:gj.finishComm E.P #[scase E.Ch vj zj] shj 0 undef false=Conc.served aEK undef:=by
    have h1:shj= .send:=by
     have:=congrArg Goroutine.offers e'
     simp only[parked,Option.some.injEq,Prod.mk.injEq] at this
     exact this.2
    subst h1
    rw[finishComm_send]
    have h2:=congrArg (fun x:Goroutine=>Conc.served x undef) e'
    exact h2
   subst hv
   obtain⟨a,b,ha,ma⟩:=BJ (r':=ar.back tr) rfl hi (o:=o) rfl
   have hwc:=setChan_at w d E.Ch (lt_size hc) (sn+1) (rc+1) tm
   have uI:=hI.base.size
   refine Ends.next (hm.trans bU) (KE a o b vj X (ho.symm.trans ha) n7 _ _ _ _ (D.set i (.back tr)) cl sl hb
    (hI.meet iD hi (.inr rfl) yQ hXY hle xN (by simp) ?_ ?_ (fun k h1 h2=>?_) hc hwc.1 hwc.2.1 hwc.2.2 ⟨rfl,rfl⟩ ⟨rfl,rfl⟩ ⟨rfl,rfl⟩ ⟨rfl,rfl⟩ ⟨rfl,rfl⟩) ma ?_)
   ·rw[Array.getElem?_setIfInBounds_self_of_lt (by simp;omega),finishComm_recv];rfl
   ·rw[Array.getElem?_setIfInBounds_ne (by omega),Array.getElem?_setIfInBounds_self_of_lt (lt_size hj),hsv]
   ·rw[Array.getElem?_setIfInBounds_ne (Ne.symm h1),Array.getElem?_setIfInBounds_ne (Ne.symm h2)]
   rw[aB,hK];exact St.le_refl _
  have:(0:Nat)∈offersAt (parked gj #[scase E.Ch vj zj] shj) E.Ch true:=by rw[offersAt_parked_send];simp
  rw[hn] at this;cases this
end
section
variable {ι:Type} {E:dM ι} {L:Nat→Option Obj} {K:Nat→St} {gs:Array Goroutine} {w w':World} {t:Trace} {D:List (ar ι)} {pend d0:Nat} {cl:zk} {sl:Option (Nat×Nat)}
 {Q:Machine→Outcome→World→Trace→Prop} {g g':Goroutine} {s:St} {es:Array Event}
theorem Inv.go0(h:Inv E L K gs w t D pend cl g d0)(hgo:stepG E.P true g w= .go g' w' es)(QB:VQ w w')(bX:¬s'.knows E.Wg)(pU:¬s'.knows E.Ch)(uV:w'.heap[E.Ch]?=w.heap[E.Ch]?)
 (mJ:Fit L (fE K 0 s') w' (t++MemOp.ofEvents 0 g.frame.fn g.frame.place es))
 (kL:∀op∈MemOp.ofEvents 0 g.frame.fn g.frame.place es,∀x,op.act.touch?=some x→E.At x→x.kind≠ .plain∧(x.kind= .said→cl=none))
 (ia:∀op∈MemOp.ofEvents 0 g.frame.fn g.frame.place es,∀a,op.act≠ .mark (.release a)) 
 (nu:∀cl',y7 cl cl'→∃st sm,WgAt E.ty E.Wg w' st sm∧Md E.max (fe ar.cnt D+lO) (fe ar.c4 D) (fe ar.c3 D) (fe ar.c2 D) (cl'.map (·.2.1)) st sm) (QP:fe ar.cnt D+lO≤E.max):
 ∃kS u cl',runT E.P (crowd gs w sl) 0=(.next (crowd kS w' sl),u)∧Inv E L (fE K 0 s') kS w' (t++u) D lO cl' g' (deafBehind d0 es)∧cl'.isSome=cl.isSome:=by
 have KC:∀op∈MemOp.ofEvents 0 g.frame.fn g.frame.place es,op.g=0:=fun op ax=>Go.ConcR.g_of_ofEvents op ax
 have bU:=runT_crowd_go (P:=E.P) (sl:=sl) (i:=0) h.main (by simpa using hgo)
 have hdo:Deaf (t++MemOp.ofEvents 0 g.frame.fn g.frame.place es) 0=deafBehind d0 es:=by rw[Deaf_own,h.deaf]
 generalize MemOp.ofEvents 0 g.frame.fn g.frame.place es=u at*
 obtain⟨sn,rc,tm,hc⟩:=h.sy.chan
 have sO:w'.heap[E.Ch]?=some (.chan 0 #[] false sn rc tm):=by rw[uV];exact hc
 have dK:∀k,∀op∈u,op.g≠k+1:=fun k op ax=>by rw[KC op ax];omega
 have It:∀b,¬s'.knows b→(∀j,¬(K j).knows b)→∀j,¬(fE K 0 s' j).knows b:=fun b h1 h2 j=>by
  by_cases e:j=0
  ·subst e;rw[aB];exact h1
  rw[aG _ _ e];exact h2 j
 obtain⟨cl',Ee,iQ⟩:∃cl',y7 cl cl'∧ajA E (fE K 0 s') ((gs.map (woken E.P g g' w')).setIfInBounds 0 g') (t++u) D cl':=by
  have iQ:=h.sy.Ex
  match cl,iQ with
  |none,iQ=>exact⟨none,.same _,iQ⟩
  |some (ic,c,n),⟨h1,h2,h3,⟨gc,EZ,pw⟩,h5⟩=>
   obtain⟨c',n',hw,avR,_,hdc⟩:=CK.tries (ic:=ic) pw g g' w'
   refine⟨some (ic,c',n'),hw,h1,h2,by rw[gF _ _ (dK ic),hdc];exact h3,⟨_,fO (by omega) EZ,by rw[aG _ _ (by omega)];exact avR⟩,fun⟨tr,e⟩=>?_⟩
   subst e
   cases hw with
   |same=>
    obtain⟨q,a1,a2,a3,a4⟩:=h5 ⟨tr,rfl⟩
    have hq:=lt_of_act? a1
    exact⟨q,by rw[act?_old hq];exact a1,by rw[g?_old hq];exact a2,(heard_old hq).2 a3,fun i r hi hcu=>let ⟨p,hp,XE⟩:=a4 i r hi hcu;⟨p,RelBy.other hp (dK i),XE⟩⟩
 refine⟨_,u,cl',bU,⟨⟨mJ,by simp[h.base.size],fun k r hk=>?_,fun k hk b hb=>?_,fun op ax=>?_,⟨QB.1.trans h.base.same.1,QB.2.trans h.base.same.2⟩⟩,
  ⟨It _ bX h.sy.kW,It _ pU h.sy.kC,h.sy.lW,h.sy.lC,h.sy.ne,fun a=>(h.sy.norel a).app fun op ax=>ia op ax a,fun j hj p x hx hb hk=>?_,?_,nu cl' Ee,QP,⟨sn,rc,tm,sO⟩,fun a b c hx=>h.sy.bal a b c (by rw[←uV];exact hx),iQ⟩,?_,hdo⟩,by cases Ee<;>rfl⟩
 ·obtain⟨x,hx,eZ⟩:=h.base.ok k r hk
  rw[aG _ _ (by omega)]
  have aax:=eZ.other (dK k)
  by_cases SE:r= .closer
  ·subst SE;exact⟨_,fO (by omega) hx,trivial⟩
  exact⟨x,by rw[fO (by omega) hx,eZ.woken SE fun _=>⟨sn,rc,tm,sO⟩],aax⟩
 ·rw[Array.size_setIfInBounds,Array.size_map] at hk
  have:=h.base.size
  rw[aG _ _ (by omega)] at hb
  exact h.base.far k hk b hb
 ·rw[Array.size_setIfInBounds,Array.size_map]
  rcases Array.mem_append.1 ax with h'|h'
  ·exact h.base.ops op h'
  rw[KC op h',h.base.size];omega
 ·rcases bE hx with ⟨_,lG⟩| ⟨_,op,SA,_,xL⟩
  ·exact(h.sy.plain j hj p x lG hb hk).app u
  exact absurd hk (kL op SA x xL hb).1
 ·have OC:=h.sy.said
  match cl,cl',Ee,OC,kL with
  |none,_,.same _,OC,_=>
   intro p x hx hb hk
   rcases bE hx with ⟨_,lG⟩| ⟨hp,op,SA,ax,xL⟩
   ·exact(OC p x lG hb hk).app u
   exact BZ KC hp ax
  |some (ic,c,n),_,.same _,OC,kL=>
   intro he p x hx hb hk
   rcases bE hx with ⟨_,lG⟩| ⟨_,op,SA,_,xL⟩
   ·exact(OC he p x lG hb hk).app u
   exact absurd ((kL op SA x xL (.inl hb)).2 hk) (by simp)
  |_,_,.up ic,_,_=>exact fun he=>he.elim
 have:=h.base.size
 rw[Array.getElem?_setIfInBounds_self_of_lt (by simp;omega)]
theorem Inv.HQ(h:Inv E L K gs w t D pend cl g d0)(hw:w'.heap[E.Wg]?=w.heap[E.Wg]?):∀cl',y7 cl cl'→∃st sm,WgAt E.ty E.Wg w' st sm∧Md E.max (fe ar.cnt D+pend) (fe ar.c4 D) (fe ar.c3 D) (fe ar.c2 D) (cl'.map (·.2.1)) st sm:=by
 intro cl' Ee
 obtain⟨st,sm,ha,hm⟩:=h.sy.cells
 exact⟨st,sm,by unfold WgAt;rw[hw];exact ha,hm.aq5 Ee⟩
def TM(E:dM ι)(L:Nat→Option Obj)(Q:Machine→Outcome→World→Trace→Prop)(pend:Nat)(b:Bool)(os:List ι)(d0:Nat)(g:Goroutine)(s:St):Prop:=
 TC E L Q pend b os d0 g s∧(b=true→os=[]→∀pc,TL E.P (iU pc) L (Ig E pc) Q g s)
theorem TC.mono{b:Bool}{os:List ι}(hl:s.le s')(h:TC E L Q pend b os d0 g s):TC E L Q pend b os d0 g s':=
 fun K gs w t D cl sl hb hI ho hle=>h K gs w t D cl sl hb hI ho (hl.trans hle)
theorem eX(b:Bool)(os:List ι)(hb:b=true→pend=0):Closed E.P true (TM E L Q pend b os 0) where
 step:=fun g s hs h=>by
  have hL:b=true→os=[]→∀pc,TL E.P (iU pc) L (Ig E pc) Q g s:=fun e ho pc=>
   (Jq (Rf pc) (Hl E pc) Q).step g s hs fun w ha=>let ⟨g',w',es,s',h1,h2,h3,h4⟩:=h w ha;⟨g',w',es,s',h1,h2,h3,h4.2 e ho pc⟩
  refine⟨wJ hs (fun K gs w t D cl sl m iD hI ho hK hm=>?_) fun e=>⟨hb e,rfl,fun ho pc=>hL e ho pc⟩,hL⟩
  subst hK
  obtain⟨g',w',es,s',hgo,_,ht,hT,_⟩:=h w (hI.base.fit.jC 0)
  obtain⟨k1,k2,k3,k4,k5,k6⟩:=hI.sy.Aj ht g.frame.fn g.frame.place
  obtain⟨kS,u,cl',hr,yS,UP⟩:=hI.go0 (sl:=sl) hgo ⟨ht.os,ht.output⟩ k1 k2 k4 (hI.base.fit.own ht _ _) (fun op ax x hx rH=>absurd rH (k5 op ax x hx)) k6 (hI.HQ k3) hI.sy.BQ
  rw[ht.deaf] at yS
  exact Ends.next (hm.trans hr) (hT _ kS w' _ D cl' sl (UP.trans iD) yS ho (by rw[aB];exact St.le_refl _))
 mono:=fun g s s' hl h=>⟨h.1.mono hl,fun e ho pc=>(h.2 e ho pc).mono hl⟩
theorem Md.opened{mx a b c:Nat}{o:Option CK}(h:Md mx n a b c o st sm)(ho:o=none):st=(n:Int)*KK∧sm=0:=by
 cases h with
 |start=>exact⟨rfl,rfl⟩
 |_=>cases ho
theorem EK{b:Bool}{os:List ι}{d':Nat}(hs:g.status= .running)(hb:b=false)
 (h:∀w st sm,WgAt E.ty E.Wg w st sm→(b=false→st=((os.length+pend:Nat):Int)*KK∧sm=0)→os.length+pend≤E.max→∃w',stepG E.P true g w= .go g' w' es∧eE E w w'∧WgAt E.ty E.Wg w' (((os.length+lO:Nat):Int)*KK) 0)
 (yO:∀e∈es,iA E e)(hd:deafBehind d0 es=d')(hp:os.length+pend≤E.max→os.length+lO≤E.max)(hT:TC E L Q lO b os d' g' s):TC E L Q pend b os d0 g s:=by
 subst hb
 refine wJ hs (fun K gs w t D cl sl m iD hI ho hK hm=>?_) fun e=>(by cases e)
 subst hK
 have hcn:cl=none:=by cases cl<;>simp_all
 subst hcn
 have iQ:=hI.sy.Ex
 have avG:∀D:List (ar ι),(∀r∈D,r.early)→fe ar.cnt D=(ki D).length∧fe ar.c4 D=0∧fe ar.c3 D=0∧fe ar.c2 D=0:=by
  intro D
  induction D with
  |nil=>intro _;exact⟨rfl,rfl,rfl,rfl⟩
  |cons r D ih=>
   intro hr
   obtain⟨i1,i4,i3,i2⟩:=ih fun x hx=>hr x (by simp[hx])
   have:=hr r (by simp)
   simp only[fe,List.map_cons,List.sum_cons,ki,List.filterMap_cons] at*
   cases r<;>first|exact this.elim| (simp[ar.cnt,ar.c4,ar.c3,ar.c2,ar.WQ,i1,i4,i3,i2];try omega)
 obtain⟨c1,c4,c3,c2⟩:=avG D iQ
 rw[ho] at c1
 obtain⟨st,sm,ha,mG⟩:=hI.sy.cells
 have I2:=hI.sy.BQ
 rw[c1] at I2
 have bS:st=((os.length+pend:Nat):Int)*KK∧sm=0:=by
  rw[c1] at mG
  exact mG.opened rfl
 obtain⟨w',hgo,htu,uv⟩:=h w st sm ha (fun _=>bS) I2
 have aCM:=iA.ops yO 0 g.frame.fn g.frame.place
 obtain⟨kS,u,cl',hr,yS,UP⟩:=hI.go0 (sl:=sl) (s':=K 0) (lO:=lO) hgo htu.same (hI.sy.kW 0) (hI.sy.kC 0) (htu.block _ (Ne.symm hI.sy.ne)) (by rw[lN];exact hI.sy.AO hI.base.fit (.inl rfl) htu yO _ _)
  (fun op ax x hx _=>by rw[((aCM op ax).2.2 x hx).2];exact⟨by simp,by simp⟩) (fun op ax=>(aCM op ax).2.1) (fun cl' hw=>by
   cases hw
   rw[c1,c4,c3,c2]
   exact⟨_,_,uv,.start⟩) (by rw[c1];exact hp I2)
 rw[hd] at yS
 exact Ends.next (hm.trans hr) (hT _ kS w' _ D cl' sl (UP.trans iD) yS ho (by rw[aB];exact St.le_refl _))
end
section
variable {ι:Type} {E:dM ι} {L:Nat→Option Obj} {K:Nat→St} {gs:Array Goroutine} {w w':World} {t:Trace} {D:List (ar ι)} {pend d0:Nat} {cl:zk} {sl:Option (Nat×Nat)}
 {Q:Machine→Outcome→World→Trace→Prop} {g g' child:Goroutine} {s gV:St} {es:Array Event}
theorem u1(f:ar ι→Nat)(D:List (ar ι))(r:ar ι):fe f (D++[r])=fe f D+f r:=by simp[fe]
theorem Inv.spawn(h:Inv E L K gs w t D pend none g 0)(hrw:(K 0).rw=[])(bS:stepG E.P true g w= .spawn g' child w #[])(hle:gV.le (K 0)){r:ar ι}{cl':zk} 
 (hr:r.left=false)(eZ:∀t',Deaf t' gs.size=0→nG E t' gs.size gV child r)
 (hn:r.cnt+lO=pend)(h4:r.c4=0)(h3:r.c3=0)(h2:r.c2=0)
 (iD:(cl'=none∧r.early)∨(∃n,cl'=some (D.length,.kd,n)∧r= .closer∧CK.at E gV child n .kd)):
 ∃kS u,runT E.P (crowd gs w sl) 0=(.next (crowd kS w sl),u)∧Inv E L (fE K gs.size gV) kS w (t++u) (D++[r]) lO cl' g' 0∧0 <gs.size:=by
 have uI:=h.base.size
 have bU:=runT_crowd_spawn (P:=E.P) (sl:=sl) (i:=0) h.main (by simpa using bS)
 have e0:MemOp.ofEvents 0 g.frame.fn g.frame.place #[]= #[]:=rfl
 rw[e0] at bU
 generalize hx:({g:=0,fn:=g.frame.fn,pos:=g.frame.place,act:= .go gs.size}:MemOp)=x at bU
 generalize hy:({g:=gs.size,fn:=child.frame.fn,pos:=g.frame.place,act:= .start}:MemOp)=y at bU
 have ex:x.g=0∧x.act= .go gs.size:=by rw[←hx];exact⟨rfl,rfl⟩
 have ey:y.g=gs.size∧y.act= .start:=by rw[←hy];exact⟨rfl,rfl⟩
 have eu:((#[]:Array MemOp).push x).push y= #[x,y]:=rfl
 rw[eu] at bU
 have hq:∀op∈ #[x,y],op.act.touch?=none:=by intro op ax;simp at ax;rcases ax with rfl|rfl<;>simp[ex.2,ey.2,MemAct.touch?]
 have QS:∀op∈ #[x,y],∀m,op.act≠ .mark m:=by intro op ax;simp at ax;rcases ax with rfl|rfl<;>simp[ex.2,ey.2]
 have hg:∀op∈ #[x,y],op.g=0∨op.g=gs.size:=by intro op ax;simp at ax;rcases ax with rfl|rfl<;>simp[ex.1,ey.1]
 have Nn:Deaf t gs.size=0:=ConcN.Deaf_absent fun i op ho e=>by have:=h.base.ops op (mem_of_getElem? ho);omega
 have yQ:∀k,Deaf (t++ #[x,y]) k=Deaf t k:=fun k=>fM t k _ QS
 have agA:∀p,Knows t 0 p→Knows (t++ #[x,y]) gs.size p:=fun p hp=>ConcN.fork_knows ex ey h.deaf Nn hp
 have mJ:=h.base.fit.quiet (u:= #[x,y]) (w':=w) E.Ch h.sy.kC h.sy.lC (Nat.le_refl _) (fun _ _ _=>rfl) hq
 have hs0:gV.rw=[]:=by
  obtain⟨R,hR,_⟩:=hle
  rw[hrw] at hR
  have:=List.append_eq_nil_iff.1 (List.nil_perm.1 hR)
  exact this.1
 have Ax:∀b o,gV.ro b=some o→(K 0).ro b=some o:=fun b o hb=>by
  obtain⟨R,hR,h2⟩:=hle
  rw[hrw] at hR
  have:=List.append_eq_nil_iff.1 (List.nil_perm.1 hR)
  rcases h2 b o hb with h3|h3
  ·exact h3
  rw[this.2] at h3;cases h3
 have agB:=mJ.share (i:=0) (n:=gs.size) (by omega) gV hs0 Ax fun b hb p z hz hzb hzw=>by
  rcases bE hz with ⟨_,D9⟩| ⟨_,op,hm,_,hzo⟩
  ·refine agA p (h.base.fit.qL 0 b ?_ p z D9 hzb hzw)
   cases ma:gV.ro b with
   |none=>exact absurd ma hb
   |some o=>rw[Ax b o ma];simp
  rw[hq op hm] at hzo;cases hzo
 have It:∀b,(∀j,¬(K j).knows b)→∀j,¬(fE K gs.size gV j).knows b:=fun b hb j hk=>by
  by_cases e:j=gs.size
  ·subst e;rw[aB] at hk;exact hb 0 (hle.knows hk)
  rw[aG _ _ e] at hk;exact hb j hk
 have iQ:=h.sy.Ex
 have n8:∀ {k z},(D++[r])[k]?=some z→(k <D.length∧D[k]?=some z)∨(k=D.length∧z=r):=fun {k z} hk=>by
  rcases Nat.lt_trichotomy k D.length with cK|e|hgt
  ·rw[List.getElem?_append_left cK] at hk;exact .inl ⟨cK,hk⟩
  ·subst e;rw[List.getElem?_append_right (Nat.le_refl _)] at hk;simp at hk;exact .inr ⟨rfl,hk.symm⟩
  rw[List.getElem?_eq_none (by simp;omega)] at hk;cases hk
 have hgs:∀k,k≠0→k <gs.size→((gs.setIfInBounds 0 g').push child)[k]?=gs[k]?:=fun k h0 cK=>by
  rw[Array.getElem?_push_lt (by simpa using cK),←Array.getElem?_eq_getElem,Array.getElem?_setIfInBounds_ne (Ne.symm h0)]
 have hgn:((gs.setIfInBounds 0 g').push child)[gs.size]?=some child:=by
  rw[Array.getElem?_push,if_pos (by simp)]
 refine⟨_,_,bU,⟨⟨agB,by simp[uI],fun k z hk=>?_,fun k hk b hb=>?_,fun op ax=>?_,h.base.same⟩,
  ⟨It _ h.sy.kW,It _ h.sy.kC,h.sy.lW,h.sy.lC,h.sy.ne,fun a=>(h.sy.norel a).app fun op ax=>QS op ax _,fun j hj p z hz hzb hzk=>?_,?_,?_,?_,h.sy.chan,h.sy.bal,?_⟩,?_,by rw[yQ];exact h.deaf⟩,by omega⟩
 ·rcases n8 hk with ⟨cK,jA⟩| ⟨rfl,rfl⟩
  ·obtain⟨q,hqk,aM9⟩:=h.base.ok k z jA
   exact⟨q,by rw[hgs _ (by omega) (by omega)];exact hqk,by rw[aG _ _ (by omega)];exact aM9.other fun op ax=>by rcases hg op ax with e|e<;>rw[e]<;>omega⟩
  refine⟨child,by rw[←uI];exact hgn,?_⟩
  rw[←uI,aB]
  exact eZ _ (by rw[yQ];exact Nn)
 ·rw[Array.size_push,Array.size_setIfInBounds] at hk
  rw[aG _ _ (by omega)] at hb
  exact h.base.far k (by omega) b hb
 ·rw[Array.size_push,Array.size_setIfInBounds]
  rcases Array.mem_append.1 ax with h'|h'
  ·have:=h.base.ops op h';omega
  rcases hg op h' with e|e<;>rw[e]<;>omega
 ·rcases bE hz with ⟨_,D9⟩| ⟨_,op,hm,_,hzo⟩
  ·rcases hj with rfl| ⟨k,q,rfl,hk,hl⟩
   ·exact(h.sy.plain 0 (.inl rfl) p z D9 hzb hzk).app _
   rcases n8 hk with ⟨_,jA⟩| ⟨rfl,rfl⟩
   ·exact(h.sy.plain (k+1) (.inr ⟨k,q,rfl,jA,hl⟩) p z D9 hzb hzk).app _
   rw[←uI];exact agA p (h.sy.plain 0 (.inl rfl) p z D9 hzb hzk)
  rw[hq op hm] at hzo;cases hzo
 ·have OC:=h.sy.said
  rcases iD with ⟨rfl,_⟩| ⟨n,rfl,_,_⟩
  ·intro p z hz hzb hzk
   rcases bE hz with ⟨_,D9⟩| ⟨_,op,hm,_,hzo⟩
   ·exact(OC p z D9 hzb hzk).app _
   rw[hq op hm] at hzo;cases hzo
  intro _ p z hz hzb hzk
  rcases bE hz with ⟨_,D9⟩| ⟨_,op,hm,_,hzo⟩
  ·rw[←uI];exact agA p (OC p z D9 hzb hzk)
  rw[hq op hm] at hzo;cases hzo
 ·obtain⟨st,sm,ha,mG⟩:=h.sy.cells
  refine⟨st,sm,ha,?_⟩
  rw[u1,u1,u1,u1,h4,h3,h2,show fe ar.cnt D+r.cnt+lO=fe ar.cnt D+pend by omega]
  rcases iD with ⟨rfl,_⟩| ⟨n,rfl,_,_⟩
  ·exact mG
  have z:∀(f:ar ι→Nat),(∀r:ar ι,r.early→f r=0)→fe f D=0:=fun f hf=>by
   unfold fe
   rw[List.sum_eq_zero_iff_forall_eq_nat]
   intro a uv
   obtain⟨q,EV,rfl⟩:=List.mem_map.1 uv
   exact hf q (iQ q EV)
  have z4:=z ar.c4 fun r hr=>by cases r<;>first|rfl|exact hr.elim
  have z3:=z ar.c3 fun r hr=>by cases r<;>first|rfl|exact hr.elim
  have z2:=z ar.c2 fun r hr=>by cases r<;>first|rfl|exact hr.elim
  obtain⟨rfl,rfl⟩:=mG.opened rfl
  rw[z4,z3,z2]
  exact .kd
 ·rw[u1];have:=h.sy.BQ;omega
 ·rcases iD with ⟨rfl,Su⟩| ⟨n,rfl,rfl,pw⟩
  ·intro z hz
   rcases List.mem_append.1 hz with h'|h'
   ·exact iQ z h'
   simp at h';subst h';exact Su
  refine⟨by simp,fun k hk=>?_,by rw[yQ,←uI];exact Nn,⟨child,by rw[←uI];exact hgn,by rw[←uI,aB];exact pw⟩,fun⟨_,e⟩=>(by cases e)⟩
  rcases n8 hk with ⟨_,jA⟩| ⟨e,_⟩
  ·exact(iQ _ (List.mem_of_getElem? jA)).elim
  exact e
 rw[Array.getElem?_push_lt (by simp;omega),←Array.getElem?_eq_getElem,Array.getElem?_setIfInBounds_self_of_lt (by omega)]
theorem Jw{os:List ι}{o:ι}(hs:g.status= .running)(hrw:s.rw=[])(bS:∀w,aR s w→stepG E.P true g w= .spawn g' child w #[])(hw:eF E.P false (E.Jj o) child s)
 (hT:TC E L Q 0 false (os++[o]) 0 g' s):TC E L Q 1 false os 0 g s:=by
 refine wJ hs (fun K gs w t D cl sl m iD hI ho hK hm=>?_) fun e=>(by cases e)
 subst hK
 have hcn:cl=none:=by cases cl<;>simp_all
 subst hcn
 obtain⟨tr,gV,hle,htr⟩:=hw
 obtain⟨kS,u,hr,yS,h0⟩:=hI.spawn (sl:=sl) (r:= .work o tr) (cl':=none) (lO:=0) hrw (bS w (hI.base.fit.jC 0)) hle rfl (fun t' hd=>⟨hd,htr⟩) rfl rfl rfl rfl (.inl ⟨rfl,trivial⟩)
 exact Ends.next (hm.trans hr) (hT _ kS w _ _ none sl rfl yS (by simp[ki,List.filterMap_append,ar.WQ] at ho ⊢;exact ho) (by rw[aG _ _ (by omega)];exact St.le_refl _))
theorem Jx{os:List ι}(hs:g.status= .running)(hrw:s.rw=[])(bS:∀w,aR s w→stepG E.P true g w= .spawn g' child w #[])(hw:E.closes s child)
 (hT:TC E L Q 0 true os 0 g' s):TC E L Q 0 false os 0 g s:=by
 refine wJ hs (fun K gs w t D cl sl m iD hI ho hK hm=>?_) fun e=>(by cases e)
 subst hK
 have hcn:cl=none:=by cases cl<;>simp_all
 subst hcn
 obtain⟨n,hn⟩:=hw
 obtain⟨kS,u,hr,yS,h0⟩:=hI.spawn (sl:=sl) (gV:=K 0) (r:= .closer) (cl':=some (D.length,.kd,n)) (lO:=0) hrw (bS w (hI.base.fit.jC 0)) (St.le_refl _) rfl (fun t' hd=>trivial) rfl rfl rfl rfl (.inr ⟨n,rfl,rfl,hn⟩)
 exact Ends.next (hm.trans hr) (hT _ kS w _ _ _ sl rfl yS (by rw[ki,List.filterMap_append];simp only[List.filterMap_cons,ar.WQ,List.filterMap_nil,List.append_nil];exact ho) (by rw[aG _ _ (by omega)];exact St.le_refl _))
end
section
variable {ι:Type} {E:dM ι} {Q:Machine→Outcome→World→Trace→Prop} {g:Goroutine} {s s':St}
theorem O7{L:Nat→Option Obj}(hs:g.status= .running)(dK:E.Wg≠E.Ch)
 (hW:(E.Wg,wgBlock E.ty 0 0)∈s.rw)(hC:∃tm,(E.Ch,Obj.chan 0 #[] false 0 0 tm)∈s.rw)
 (hle:s'.le s)(hkW:¬s'.knows E.Wg)(hkC:¬s'.knows E.Ch)(ku:∀b,s'.iN b→L b=none)
 (hL:∀b o,L b=some o→s.has b o∧b≠E.Wg∧b≠E.Ch)
 (hT:TC E L Q 0 false [] 0 g s'):TL E.P ep (fun _=>none) (Calm E.os E.out) Q g s:=by
 intro K gs w t q sl hLv h0 aNH hd ⟨auG,afK⟩
 have hLv:=hLv.le aNH
 have hs0:(fE K 0 s) 0=s:=aB _ _ _
 have oX:=hLv.fit.jC 0
 rw[hs0] at oX
 obtain⟨tm,hC⟩:=hC
 have hWw:=oX.rw _ _ hW
 have hCw:=oX.rw _ _ hC
 have hex:∀i,i <q.length→∃d,∃x,gs[i+1]?=some x∧QuitsD E.P (q.getD i 0) d x∧Deaf t (i+1)=d∧ep t (i+1):=fun i hi=>by
  obtain⟨x,d,h1,h2,h3,h4⟩:=hLv.ok i _ (List.getElem?_eq_getElem hi)
  exact⟨d,x,h1,by rw[List.getD_eq_getElem?_getD,List.getElem?_eq_getElem hi];exact h2,h3,h4⟩
 let D:List (ar ι):=(List.range q.length).map fun i=>ar.leave (q.getD i 0) (Deaf t (i+1)) false
 have hD:∀i r,D[i]?=some r→i <q.length∧r=ar.leave (q.getD i 0) (Deaf t (i+1)) false:=fun i r hi=>by
  simp only[D,List.getElem?_map] at hi
  obtain⟨j,hj,rfl⟩:=Option.map_eq_some_iff.1 hi
  obtain⟨cK,rfl⟩:=List.getElem?_eq_some_iff.1 hj
  simp only[List.length_range] at cK
  simp only[List.getElem_range]
  exact⟨cK,trivial⟩
 have iP:∀r∈D,∃a b,r=ar.leave a b false:=fun r hr=>by
  obtain⟨i,hi⟩:=List.getElem?_of_mem hr
  exact⟨_,_,(hD i r hi).2⟩
 have hzero:∀f:ar ι→Nat,(∀a b,f (.leave a b false)=0)→fe f D=0:=fun f hf=>by
  unfold fe
  rw[List.sum_eq_zero_iff_forall_eq_nat]
  intro x hx
  obtain⟨r,hr,rfl⟩:=List.mem_map.1 hx
  obtain⟨a,b,rfl⟩:=iP r hr
  exact hf a b
 let K':Nat→St:=fun j=>if j=0 then s' else ⟨fun _=>none,[]⟩
 have X4:K' 0=s':=by simp[K']
 have hKn:∀j,j≠0→K' j=⟨fun _=>none,[]⟩:=fun j hj=>by simp[K',hj]
 have none:∀j b,j≠0→¬(K' j).knows b:=fun j b hj hk=>by
  rw[hKn j hj] at hk
  rcases hk with hk| ⟨o,ho⟩
  ·exact hk rfl
  cases ho
 have G5:Fit (fun _=>Option.none) K' w t:=hLv.fit.le fun j=>by
  by_cases e:j=0
  ·subst e;rw[X4,hs0];exact hle
  rw[hKn j e];exact⟨(fE K 0 s j).rw,by simp,fun b o hb=>(by cases hb)⟩
 have agB:Fit L K' w t:=by
  refine⟨fun b o hl=>oX.has (hL b o hl).1,fun i b ho=>?_,G5.jC,G5.sep,G5.perm,G5.qL,G5.old,G5.clean,fun p x b hx hk hb=>⟨?_,(G5.sync p x b hx hk hb).2⟩⟩
  ·by_cases e:i=0
   ·subst e;rw[X4] at ho;exact ku b ho
   exact absurd (.inr ho) (none i b e)
  cases hl:L b with
  |none=>rfl
  |some o=>
   have:=(hLv.fit.sync p x b hx hk hb).2 0
   rw[hs0] at this
   rcases(hL b o hl).1 with h1|h1
   ·exact absurd (.inl (by rw[h1];simp)) this
   exact absurd (.inr ⟨o,h1⟩) this
 have hLb:∀b,(b=E.Wg∨b=E.Ch)→L b=Option.none:=fun b hb=>by
  cases hl:L b with
  |none=>rfl
  |some o=>
   rcases hb with e|e
   ·exact absurd e (hL b o hl).2.1
   exact absurd e (hL b o hl).2.2
 have hKk:∀b,¬s'.knows b→∀j,¬(K' j).knows b:=fun b hb j=>by
  by_cases e:j=0
  ·subst e;rw[X4];exact hb
  exact none j b e
 have apg:∀p x,touchAt t p=some x→blk x.loc=some E.Wg→Knows t 0 p:=fun p x hx hb=>hLv.fit.perm 0 E.Wg (by rw[hs0];exact⟨_,hW⟩) p x hx hb
 have aAZ:∀p x,touchAt t p=some x→E.At x→Knows t 0 p:=fun p x hx hb=>hb.elim (apg p x hx) fun hb=>hLv.fit.perm 0 E.Ch (by rw[hs0];exact⟨_,hC⟩) p x hx hb
 refine hT K' gs w t D Option.none sl rfl ⟨⟨agB,by simp[D,hLv.size],fun i r hi=>?_,fun i hi b=>?_,hLv.ops,afK⟩,
  ⟨hKk _ hkW,hKk _ hkC,hLb _ (.inl rfl),hLb _ (.inr rfl),dK,auG,fun j hj p x hx hb _=>?_,fun p x hx hb _=>apg p x hx hb,⟨0,0,hWw,?_⟩,?_,⟨0,0,tm,hCw⟩,fun a b c hx=>?_,fun r hr=>?_⟩,h0,hd⟩ ?_ (by rw[X4];exact St.le_refl _)
 ·obtain⟨cK,rfl⟩:=hD i r hi
  obtain⟨d,x,h1,h2,h3,h4⟩:=hex i cK
  exact⟨x,h1,hKn _ (by omega),by rw[h3];exact h2,rfl,(fun e=>(by cases e)),fun _=>h4⟩
 ·exact none i b (by have:=hLv.size;omega)
 ·rcases hj with rfl| ⟨k,r,rfl,hk,hl⟩
  ·exact aAZ p x hx hb
  obtain⟨_,rfl⟩:=hD k r hk;cases hl
 ·rw[hzero ar.cnt fun _ _=>rfl,hzero ar.c4 fun _ _=>rfl,hzero ar.c3 fun _ _=>rfl,hzero ar.c2 fun _ _=>rfl]
  have:=Md.start (mx:=E.max) (n:=0)
  simpa using this
 ·rw[hzero ar.cnt fun _ _=>rfl];omega
 ·rw[hCw] at hx
  simp only[Option.some.injEq,Obj.chan.injEq] at hx
  omega
 ·obtain⟨a,b,rfl⟩:=iP r hr;rfl
 unfold ki
 rw[List.filterMap_eq_nil_iff]
 intro r hr
 obtain⟨a,b,rfl⟩:=iP r hr;rfl
end
theorem Dj(os:Os)(out:Array (Nat×ByteArray)):YM (Calm os out) where
 grow:=fun _ _ _ _ h hu=>⟨fun a=>(h.1 a).app fun op ax=>hu op ax a,h.2⟩
 drawn:=fun _ _ _ _ h=>h
 le:=fun _ _ _ _ h _=>h
 own:=fun _ _ _ _ _ _ _ h ht hu=>⟨fun a=>(h.1 a).app fun op ax=>hu op ax a,ht.os.trans h.2.1,ht.output.trans h.2.2⟩
def T0(P:Program)(os:Os)(out:Array (Nat×ByteArray))(Post:Value→World→Prop):Goroutine→St→Prop:=TL P ep (fun _=>none) (Calm os out) (Good P Post)
theorem sj(P:Program)(os:Os)(out:Array (Nat×ByteArray))(Post:Value→World→Prop):Closed P true (T0 P os out Post):=Jq Dw (Dj os out) _
theorem Zh{os:Os}{out:Array (Nat×ByteArray)}{Post:Value→World→Prop}{s:St}(hs:g.status= .running)
 (bS:∀w,aR s w→w.os=os→w.output=out→∃v w' es s',stepG P true g w= .ended (.done v) w' es∧Post v w'∧Trans s w s' w' es):T0 P os out Post g s:=by
 refine LQ Dw (Dj os out) hs fun K gs w t q sl m hL h0 hK hd hi hm hmg=>?_
 subst hK
 obtain⟨v,w',es,s',hgo,hp,ht⟩:=bS w (hL.fit.jC 0) hi.2.1 hi.2.2
 have hr:=ConcN.runT_crowd_ended (P:=P) (sl:=sl) (i:=0) h0 (by simpa using hgo)
 have mJ:=hL.fit.own ht g.frame.fn g.frame.place
 generalize hu:MemOp.ofEvents 0 g.frame.fn g.frame.place es=u at hr mJ
 have KC:∀op∈u,op.g=0:=by rw[←hu];exact fun op ax=>Go.ConcR.g_of_ofEvents op ax
 refine⟨0,m,.done v,w',t++u,by simp[runNT,hm,hr],rfl,by simp[step,hm,hr],v,rfl,hp,mJ.clean,fun i k hk dK hc=>?_,⟨fun x hx=>?_,by rw[hmg.2];rfl⟩,fun i x hx dK=>?_⟩
 ·obtain⟨op,ho,aZL⟩:=Option.map_eq_some_iff.1 hk
  cases k with
  |zero=>exact absurd rfl dK
  |succ k=>
   have cK:op.g <gs.size:=by
    rcases Array.mem_append.1 (mem_of_getElem? ho) with h'|h'
    ·exact hL.ops op h'
    rw[KC op h',hL.size];omega
   have hkq:k <q.length:=by have:=hL.size;omega
   obtain⟨_,_,_,_,_,bV⟩:=hL.ok k _ (List.getElem?_eq_getElem hkq)
   exact(bV.other fun op ax=>by rw[KC op ax];omega) i hk hc
 ·rw[hmg.1] at hx
  obtain⟨j,hj⟩:=List.getElem?_of_mem hx
  rw[List.getElem?_drop,Array.getElem?_toList] at hj
  have hjq:j <q.length:=by have:=lt_size hj;have:=hL.size;omega
  obtain⟨y,d,hy,hq,_⟩:=hL.ok j _ (List.getElem?_eq_getElem hjq)
  rw[Nat.add_comm] at hj
  rw[hj] at hy
  obtain rfl:=Option.some.inj hy
  exact⟨_,hq.leaves⟩
 rw[hmg.1] at hx
 cases i with
 |zero=>exact absurd rfl dK
 |succ j=>
  have hjq:j <q.length:=by have:=lt_size hx;have:=hL.size;omega
  obtain⟨y,d,hy,hq,hdd,_⟩:=hL.ok j _ (List.getElem?_eq_getElem hjq)
  rw[hx] at hy
  obtain rfl:=Option.some.inj hy
  refine⟨q[j],?_⟩
  have e:(t++u).deaf (j+1) (t++u).size=d:=by
   have:=gF t u (g:=j+1) fun op ax=>by rw[KC op ax];omega
   unfold Deaf at this hdd
   rw[this];exact hdd
  rw[e]
  exact hq.hears m.world
theorem acU{Post:Value→World→Prop}{s:St}{w:World}(ha:aR s w)(h:T0 P w.os w.output Post g s):Ends P (Good P Post) (solo g w) #[]:=by
 rw[solo_eq_crowd]
 have Io:∀p x,touchAt #[] p=some x→False:=fun p x hx=>by simp[touchAt,Trace.act?] at hx
 have hn:∀i,i≠0→∀b,¬((if i=0 then s else ⟨fun _=>none,[]⟩:St)).knows b:=fun i hi b hk=>by
  rw[if_neg hi] at hk
  rcases hk with hk| ⟨o,ho⟩
  ·exact hk rfl
  cases ho
 refine h (fun j=>if j=0 then s else ⟨fun _=>none,[]⟩) #[g] w #[] [] none ⟨⟨(fun _ _ e=>(by cases e)),fun _ _ _=>rfl,fun i=>?_,fun i j b Is ho hk=>?_,fun _ _ _ p x hx=>(Io p x hx).elim,fun _ _ _ p x hx=>(Io p x hx).elim,
  fun p x _ hx=>(Io p x hx).elim,(fun said ⟨i,j,_,⟨a,b,h1,_⟩,_⟩=>by simp[Trace.act?] at h1),fun p x _ hx=>(Io p x hx).elim⟩,rfl,fun i n hi=>by simp at hi,fun i b hi hk=>hn i hi b hk,by simp⟩ rfl (by simp only[if_true];exact St.le_refl _) rfl ⟨fun a i=>by simp[Trace.act?],rfl,rfl⟩
 ·by_cases e:i=0
  ·simp only[e,if_true];exact ha
  simp only[if_neg e];exact⟨(fun _ _ e=>(by cases e)),(fun _ _ e=>(by cases e)),by simp,(fun _ _ e=>(by cases e))⟩
 by_cases e:j=0
 ·exact hn i (fun e'=>Is (e'.trans e.symm)) b (.inr ho)
 exact hn j e b hk
section
variable {ι:Type} {E:dM ι} {L:Nat→Option Obj} {pend d0:Nat} {Q:Machine→Outcome→World→Trace→Prop} {g g':Goroutine} {s:St} {os:List ι}
theorem We(hs:g.status= .running)(bS:∀w,E.live w→stepG E.P true g w= .go g' w #[])(hT:TC E L Q pend false os d0 g' s):TC E L Q pend false os d0 g s:=
 EK (es:= #[]) (lO:=pend) hs rfl (fun w st sm ha hb _=>⟨w,bS w ⟨st,sm,ha⟩,eE.refl w,by obtain⟨rfl,rfl⟩:=hb rfl;exact ha⟩) (by simp) rfl id hT
theorem akS(hs:g.status= .running)(bS:∀w,E.live w→stepG E.P true g w= .go g' w #[said (.read (smA E.Wg))])(hT:TC E L Q pend false os d0 g' s):TC E L Q pend false os d0 g s:=by
 refine wJ hs (fun K gs w t D cl sl m iD hI ho hK hm=>?_) fun e=>(by cases e)
 subst hK
 have hcn:cl=none:=by cases cl<;>simp_all
 subst hcn
 obtain⟨st,sm,ha,_⟩:=hI.sy.cells
 have hgo:=bS w ⟨st,sm,ha⟩
 have e1:MemOp.ofEvents 0 g.frame.fn g.frame.place #[said (.read (smA E.Wg))]= #[{g:=0,fn:=g.frame.fn,pos:=g.frame.place,act:= .mark (.read (smA E.Wg))}]:=by rw[ofEvents_eq];simp[said,Go.ConcR.ofEvent_mk]
 have auz:∀op∈MemOp.ofEvents 0 g.frame.fn g.frame.place #[said (.read (smA E.Wg))],op.g=0∧op.act= .mark (.read (smA E.Wg)):=by
  rw[e1];intro op ax;simp only[List.mem_toArray,List.mem_singleton] at ax;subst ax;exact⟨rfl,rfl⟩
 have htc:∀op∈MemOp.ofEvents 0 g.frame.fn g.frame.place #[said (.read (smA E.Wg))],∀x,op.act.touch?=some x→x=⟨.cell (smA E.Wg),false,.said⟩:=fun op ax x hx=>by
  rw[(auz op ax).2] at hx;simp only[MemAct.touch?,Option.some.injEq] at hx;exact hx.symm
 obtain⟨kS,u,cl',hr,yS,UP⟩:=hI.go0 (sl:=sl) (s':=K 0) (lO:=pend) hgo ⟨rfl,rfl⟩ (hI.sy.kW 0) (hI.sy.kC 0) rfl (by
  rw[lN]
  refine hI.base.fit.beside E.Wg 0 hI.sy.kW hI.sy.lW (lt_size ha) (Nat.le_refl _) (fun _ _ _=>rfl) (fun op ax=>(auz op ax).1) fun op ax x hx=>?_
  obtain rfl:=htc op ax x hx
  refine⟨rfl,fun sd p a uv hc=>?_⟩
  have hl:blk a.loc=some E.Wg:=by rw[hc.1];rfl
  rcases hc.2.2.2 with h3|h3|h3
  ·exact hI.sy.plain 0 (.inl rfl) p a uv (.inl hl) h3
  ·cases h3
  ·exact hI.sy.said p a uv hl h3.2.1)
  (fun op ax x hx _=>by obtain rfl:=htc op ax x hx;exact⟨by simp,fun _=>rfl⟩) (fun op ax a=>by rw[(auz op ax).2];simp) (hI.HQ rfl) hI.sy.BQ
 exact Ends.next (hm.trans hr) (hT _ kS w _ D cl' sl (UP.trans iD) yS ho (by rw[aB];exact St.le_refl _))
end
abbrev Lz:=Option Value×Option Value
abbrev iY:Lz:=(none,none)
def HS:Lz→Nat→Option Value
 | (a,_),0=>a
 | (_,b),1=>b
 |_,_=>none
theorem RU(off:Nat):HS iY off=none:=by
 match off with
 |0=>rfl
 |1=>rfl
 |_+2=>rfl
def N3:Lz→Nat→Value→Lz
 | (_,b),0,v=>(some v,b)
 | (a,_),1,v=>(a,some v)
 |c,_,_=>c
inductive RH(α:Type) where
 |ok (a:α)
 |halt (h:Halt)
structure VO(α:Type) where
 r:RH α
 ws:List (Nat×Value)
 es:List Event
 bs:List Nat
def uz(P:Program)(ty:TypeId):Sem α→Lz→Option (VO α)
 | .pure a,_=>some ⟨.ok a,[],[],[]⟩
 | .load m a k,c=>match a.spot with
  |some _=>none
  |none=>match HS c a.off with
   |some v=>match uz P ty (k v) c with
    |some o=>some ⟨o.r,o.ws,⟨.cell a,false,m== .atomic⟩::o.es,a.block::o.bs⟩
    |none=>none
   |none=>none
 | .store m a v k,c=>match a.spot with
  |some _=>none
  |none=>bif single v then (match HS c a.off with
   |some _=>match uz P ty k (N3 c a.off v) with
    |some o=>some ⟨o.r,(a.off,v)::o.ws,⟨.cell a,true,m== .atomic⟩::o.es,a.block::o.bs⟩
    |none=>none
   |none=>none) else none
 | .shape r k,c=>match uz P ty (k (some (ty,2))) c with
  |some o=>some ⟨o.r,o.ws,o.es,r::o.bs⟩
  |none=>none
 | .frozen a k,c=>match uz P ty (k false) c with
  |some o=>some ⟨o.r,o.ws,o.es,a.block::o.bs⟩
  |none=>none
 | .program k,c=>uz P ty (k P) c
 | .mark m k,c=>match uz P ty k c with
  |some o=>some ⟨o.r,o.ws,⟨.mark m,false,true⟩::o.es,o.bs⟩
  |none=>none
 | .halt h,_=>some ⟨.halt h,[],[],[]⟩
 |_,_=>none
def lU(ty:TypeId)(W:Nat)(w:World)(c:Lz):Prop:=∃a b,w.heap[W]?=some (.cells #[a,b] ty)∧(∀x,c.1=some x→a=x)∧∀x,c.2=some x→b=x
theorem lU.ac4{w:World}{c:Lz}(h:lU ty W w c):∃a b,w.heap[W]?=some (.cells #[a,b] ty):=by
 obtain⟨a,b,h,_⟩:=h
 exact⟨a,b,h⟩
def MC(W:Nat)(w:World)(ws:List (Nat×Value)):World:=ws.foldl (fun w x=>w.setCell ⟨W,x.1,none⟩ x.2) w
def RH.to(w:World):RH α→Result α
 | .ok a=> .ok a w
 | .halt h=> .halt h w
theorem HR{w:World}{c:Lz}(h:lU ty W w c){v:Value}(hv:HS c off=some v):w.cell? ⟨W,off,none⟩=some v:=by
 obtain⟨p,q,h,h1,h2⟩:=h
 unfold HS at hv
 split at hv<;>try (cases hv;done)
 ·rw[←h1 _ hv];simp[World.cell?,h]
 rw[←h2 _ hv];simp[World.cell?,h]
theorem abc{w:World}{c:Lz}(h:lU ty W w c){u v:Value}(hv:HS c off=some u):lU ty W (w.setCell ⟨W,off,none⟩ v) (N3 c off v):=by
 obtain⟨p,q,h,h1,h2⟩:=h
 unfold HS at hv
 split at hv<;>try (cases hv;done)
 ·exact⟨v,q,by simp[World.setCell,Array.getElem?_modify,h],by simp[N3],fun x hx=>h2 x hx⟩
 exact⟨p,v,by simp[World.setCell,Array.getElem?_modify,h],fun x hx=>h1 x hx,by simp[N3]⟩
theorem acI{w:World}{a b:Value}(h:w.heap[W]?=some (.cells #[a,b] ty)) (off:Nat) (s:Option Nat):w.frozen? ⟨W,off,s⟩=false:=by
 simp[World.frozen?,h]
theorem Ma(x:Sem α):∀ {c:Lz} {o:VO α} {w:World} (es:Array Event),uz P ty x c=some o→(∀b∈o.bs,b=W)→((c=iY∧o.bs=[])∨lU ty W w c)→x.runT P w es=(o.r.to (MC W w o.ws),es++o.es.toArray):=by
 induction x with
 |pure a=>intro c o w es h hb hc;simp only[uz,Option.some.injEq] at h;subst h;simp[Sem.runT,RH.to,MC]
 |halt a=>intro c o w es h hb hc;simp only[uz,Option.some.injEq] at h;subst h;simp[Sem.runT,RH.to,MC]
 |load m a k ih=>
  intro c o w es h hb hc
  simp only[uz] at h
  split at h<;>try (cases h;done)
  rename_i hs
  split at h<;>try (cases h;done)
  rename_i v hv
  split at h<;>try (cases h;done)
  rename_i o1 h1
  simp only[Option.some.injEq] at h;subst h
  have e:a=⟨W,a.off,none⟩:=by
   have:=hb a.block (by simp)
   rcases a with ⟨x,y,z⟩
   simp only at hs this
   subst hs this;rfl
  have sO:lU ty W w c:=hc.elim (fun hh=>by rw[hh.1] at hv;rw[RU] at hv;cases hv) id
  have Hc:w.cell? a=some v:=by rw[e];exact HR sO hv
  simp only[Sem.runT,Hc]
  rw[ih v _ h1 (fun b hm=>hb b (by simp[hm])) (.inr sO)]
  simp
 |store m a v k ih=>
  intro c o w es h hb hc
  simp only[uz] at h
  split at h<;>try (cases h;done)
  rename_i hs
  cases hsg:single v with
  |false=>rw[hsg] at h;cases h
  |true=>
  rw[hsg] at h;simp only[cond_true] at h
  split at h<;>try (cases h;done)
  rename_i u hu
  split at h<;>try (cases h;done)
  rename_i o1 h1
  simp only[Option.some.injEq] at h;subst h
  have e:a=⟨W,a.off,none⟩:=by
   have:=hb a.block (by simp)
   rcases a with ⟨x,y,z⟩
   simp only at hs this
   subst hs this;rfl
  have sO:lU ty W w c:=hc.elim (fun hh=>by rw[hh.1] at hu;rw[RU] at hu;cases hu) id
  have Hc:w.cell? a=some u:=by rw[e];exact HR sO hu
  have hfz:w.frozen? a=false:=by
   obtain⟨p,q,XE⟩:=sO.ac4
   rw[e];exact acI XE _ _
  have oI:=abc (v:=v) sO hu
  have key:(Sem.store m a v k).runT P w es=k.runT P (w.setCell a v) (es.push ⟨.cell a,true,m== .atomic⟩):=by
   cases v<;>first| (cases hsg;done)|simp[Sem.runT,Hc,hfz]
  rw[key,ih _ h1 (fun b hm=>hb b (by simp[hm])) (.inr (by rw[e];exact oI))]
  simp only[MC,List.foldl_cons]
  rw[←e]
  simp
 |shape r k ih=>
  intro c o w es h hb hc
  simp only[uz] at h
  split at h<;>try (cases h;done)
  rename_i o1 h1
  simp only[Option.some.injEq] at h;subst h
  have e:r=W:=hb r (by simp)
  have sO:lU ty W w c:=hc.elim (fun hh=>by cases hh.2) id
  have hsh:w.shape? r=some (ty,2):=by
   obtain⟨p,q,XE⟩:=sO.ac4
   rw[e];simp[World.shape?,XE]
  simp only[Sem.runT,hsh]
  exact ih _ _ h1 (fun b hm=>hb b (by simp[hm])) (.inr sO)
 |frozen a k ih=>
  intro c o w es h hb hc
  simp only[uz] at h
  split at h<;>try (cases h;done)
  rename_i o1 h1
  simp only[Option.some.injEq] at h;subst h
  have e:a.block=W:=hb a.block (by simp)
  have sO:lU ty W w c:=hc.elim (fun hh=>by cases hh.2) id
  have hsh:w.frozen? a=false:=by
   obtain⟨p,q,XE⟩:=sO.ac4
   rcases a with ⟨x,y,z⟩
   simp only at e;subst e;exact acI XE _ _
  simp only[Sem.runT,hsh]
  exact ih _ _ h1 (fun b hm=>hb b (by simp[hm])) (.inr sO)
 |program k ih=>
  intro c o w es h hb hc
  simp only[uz] at h
  simp only[Sem.runT]
  exact ih _ _ h hb hc
 |mark m k ih=>
  intro c o w es h hb hc
  simp only[uz] at h
  split at h<;>try (cases h;done)
  rename_i o1 h1
  simp only[Option.some.injEq] at h;subst h
  simp only[Sem.runT]
  rw[ih _ h1 (fun b hm=>hb b hm) hc]
  simp
 |new o k ih=>intro c o w es h;cases h
 |freeze a n k ih=>intro c o w es h;cases h
 |getObj r k ih=>intro c o w es h;cases h
 |setObj r o k ih=>intro c o w es h;cases h
 |choose q k ih=>intro c o w es h;cases h
 |sys q k ih=>intro c o w es h;cases h
def awM(fr:Frame):Option Frame:=
 match fr.todo with
 | []=>match fr.roundOf with
  |none=>some {fr with mode:= .returning}
  |some _=>none
 | .code .ret::_=>match fr.roundOf with
  |none=>some {fr with mode:= .returning}
  |some _=>none
 | .code .skip::k=>some {fr with todo:=k}
 | .code (.label _)::k=>some {fr with todo:=k}
 | .inBlock _::k=>some {fr with todo:=k}
 | .inScope _::k=>some {fr with todo:=k}
 | .code (.seq a b)::k=>some {fr with todo:= .code a:: .code b::k}
 | .code (.cond c x y)::k=>match fr.eval c with
  | .bool b=>some {fr with todo:= .code (if b then x else y)::k}
  |_=>none
 | .code (.block id body)::k=>some {fr with todo:= .code body:: .inBlock id::k}
 | .code (.loop body)::k=>some {fr with todo:= .code body:: .inLoop body::k}
 | .inLoop body::k=>some {fr with todo:= .code body:: .inLoop body::k}
 | .code (.scope body)::k=>some {fr with todo:= .code body:: .inScope body::k}
 | .code (.exit id)::k=>match exitTo id k with
  |some k'=>some {fr with todo:=k'}
  |none=>none
 | .code (.region _ ops false)::k=>some {fr with todo:= .inRegion ops (List.range ops.size)::k}
 | .inRegion _ []::k=>some {fr with todo:=k}
 | .inRegion ops (i::_)::_=>if ((ops[i]?).map (Region.wanted · (yielded ops fr.tmps))).getD false then none else some (fr.finish undef)
 |_=>none
theorem anT(hm:fr.mode= .run)(h:awM fr=some nA)(w:World):stepG P main (G fr cs) w= .go (G nA cs) w #[]:=by
 rcases fr with ⟨fn,tmps,todo,defers,mode,kind,ro⟩
 simp only at hm;subst hm
 unfold awM at h
 simp only at h
 split at h
 all_goals try (cases h;done)
 all_goals try (simp only[Option.some.injEq] at h;subst h;simp[G,stepG,stepG.exec];done)
 ·split at h<;>try (cases h;done)
  simp only[Option.some.injEq] at h;subst h;simp[G,stepG,stepG.exec]
 ·split at h<;>try (cases h;done)
  simp only[Option.some.injEq] at h;subst h;simp[G,stepG,stepG.exec]
 ·split at h<;>try (cases h;done)
  rename_i b hb
  simp only[Option.some.injEq] at h;subst h
  simp only[G,stepG,stepG.exec,hb]
 ·split at h<;>try (cases h;done)
  rename_i b hb
  simp only[Option.some.injEq] at h;subst h
  simp[G,stepG,stepG.exec,hb]
 split at h<;>try (cases h;done)
 rename_i hw
 simp only[Option.some.injEq] at h;subst h
 simp only[G,stepG,stepG.exec,hw]
 simp
inductive OV where
 |go (fr:Frame) (gY:List Frame)
 |ret (v:Value)
 |ar6
 |block
abbrev OVs:=Option (OV×List (Nat×Value)×List Event×List Nat)
def uk(P:Program)(fn:FuncId)(es:List Event):List Event:=(seen P fn es.toArray).toList
def Xt:CallKind→Bool
 | .early=>true
 |_=>false
def ad6(P:Program)(ty:TypeId)(c:Lz)(fr:Frame)(gY:List Frame):OVs:=
 match fr.todo with
 | .inRegion ops (i::_)::_=>bif ((ops[i]?).map (Region.wanted · (yielded ops fr.tmps))).getD false&& !(Xt fr.kind) then (match fr.roundOf,fr.oper? with
  |none,some o=>match uz P ty (execOp fr.eval o) c with
   |some ⟨.ok (.value v),ws,es,bs⟩=>some (.go (fr.finish v) gY,ws,uk P fr.fn es,bs)
   |some ⟨.ok .skip,ws,es,bs⟩=>some (.go (fr.finish undef) gY,ws,uk P fr.fn es,bs)
   |some ⟨.ok (.enter f args),ws,es,bs⟩=>some (.go (Frame.enter P f args .normal) (fr::gY),ws,uk P fr.fn es,bs)
   |some ⟨.ok (.defer d),ws,es,bs⟩=>some (.go ({fr with defers:=d::fr.defers}.finish undef) gY,ws,uk P fr.fn es,bs)
   |some ⟨.halt .blocked,ws,_,bs⟩=>some (.block,ws,[],bs)
   |_=>none
  |_,_=>none) else none
 |_=>none
def aB0:Target→Bool
 | .fn .. =>true
 |_=>false
def arx(P:Program)(ty:TypeId)(c:Lz)(fr:Frame)(gY:List Frame):OVs:=
 match fr.defers with
 | []=>match P.funcs[fr.fn]? with
  |some fn=>match uz P ty (results fn fr.tmps) c with
   |some ⟨.ok v,ws,es,bs⟩=>match gY with
    |q::fR=>match fr.kind with
     | .normal=>some (.go (q.finish v) fR,ws,uk P fr.fn es,bs)
     | .deferred=>match q.mode with
      | .returning=>some (.go q fR,ws,uk P fr.fn es,bs)
      |_=>none
     |_=>none
    | []=>match fr.kind with
     | .normal=>some (.ret v,ws,uk P fr.fn es,bs)
     | .deferred=>some (.ar6,ws,uk P fr.fn es,bs)
     |_=>none
   |_=>none
  |none=>none
 |d::ds=>bif aB0 d.target then (match uz P ty (invoke d.target d.args) c with
  |some ⟨.ok (.value _),ws,es,bs⟩=>some (.go {fr with defers:=ds} gY,ws,uk P fr.fn es,bs)
  |some ⟨.ok (.enter f args),ws,es,bs⟩=>some (.go (Frame.enter P f args .deferred) ({fr with defers:=ds}::gY),ws,uk P fr.fn es,bs)
  |_=>none) else none
def P0(P:Program)(ty:TypeId)(c:Lz)(fr:Frame)(gY:List Frame):OVs:=
 match fr.mode with
 | .run=>match awM fr with
  |some nA=>some (.go nA gY,[],[],[])
  |none=>ad6 P ty c fr gY
 | .returning=>arx P ty c fr gY
 |_=>none
def OV.is(P:Program)(main:Bool)(g:Goroutine)(w w':World)(es:Array Event)(cs:List Frame):OV→Prop
 | .go fr gY=>stepG P main g w= .go (G fr (gY++cs)) w' es
 | .ret v=>(∀c IB,cs=c::IB→stepG P main g w= .go (G (c.finish v) IB) w' es)
 | .ar6=>(∀c IB,cs=c::IB→(c.mode= .returning∨∃ch,c.mode= .panicking [⟨ch,false,true⟩])→stepG P main g w= .go (G c IB) w' es)
 | .block=>stepG P main g w= .go {g with status:= .blocked} w' es
section
variable {P:Program} {main:Bool} {ty:TypeId} {W:Nat} {c:Lz} {fr:Frame} {gY cs:List Frame} {w:World} {o:OV} {ws:List (Nat×Value)} {es:List Event} {bs:List Nat}
theorem toArr(P:Program)(fn:FuncId)(es:List Event):(uk P fn es).toArray=seen P fn es.toArray:=by simp[uk]
theorem ad5(hm:fr.mode= .run)(h:ad6 P ty c fr gY=some (o,ws,es,bs))(hb:∀b∈bs,b=W)(hc:(c=iY∧bs=[])∨lU ty W w c)(cs:List Frame)(main:Bool):o.is P main (G fr (gY++cs)) w (MC W w ws) es.toArray cs:=by
 rcases fr with ⟨fn,tmps,todo,defers,mode,kind,ro⟩
 simp only at hm;subst hm
 unfold ad6 at h
 simp only at h
 split at h<;>try (cases h;done)
 rename_i ops i rest k
 cases hw:(((ops[i]?).map (Region.wanted · (yielded ops tmps))).getD false&& !(Xt kind)) with
 |false=>rw[hw] at h;cases h
 |true=>
 rw[hw] at h;simp only[cond_true] at h
 simp only[Bool.and_eq_true] at hw
 have hk:(kind==CallKind.early)=false:=by cases kind<;>first|rfl|cases hw.2
 split at h<;>try (cases h;done)
 rename_i op ax
 have gp:∀cs,stepG P main (G ⟨fn,tmps,.inRegion ops (i::rest)::k,defers,.run,kind,none⟩ cs) w=stepG.apply P true ⟨fn,tmps,.inRegion ops (i::rest)::k,defers,.run,kind,none⟩ cs none (execOp (Frame.eval ⟨fn,tmps,.inRegion ops (i::rest)::k,defers,.run,kind,none⟩) op) w:=by
  intro cs
  simp only[G,stepG,stepG.exec,hw.1,if_true,stepG.oper,ax]
 split at h<;>try (cases h;done)
 all_goals
  rename_i heq hv
  simp only[Option.some.injEq,Prod.mk.injEq] at h
  obtain⟨rfl,rfl,rfl,rfl⟩:=h
  have bU:=Ma _ (w:=w) #[] hv hb hc
  simp only[RH.to,Array.empty_append] at bU
  simp only[OV.is]
  rw[gp]
  simp only[stepG.apply,bU,if_true,hk,Bool.false_eq_true,if_false,GStep.after,Array.append_empty,G,toArr]
 all_goals first|rfl| (simp[seen_none];done)
theorem akO(hm:fr.mode= .returning)(h:arx P ty c fr gY=some (o,ws,es,bs))(hb:∀b∈bs,b=W)(hc:(c=iY∧bs=[])∨lU ty W w c)(cs:List Frame)(main:Bool):o.is P main (G fr (gY++cs)) w (MC W w ws) es.toArray cs:=by
 rcases fr with ⟨fn,tmps,todo,defers,mode,kind,ro⟩
 simp only at hm;subst hm
 unfold arx at h
 simp only at h
 split at h
 ·split at h<;>try (cases h;done)
  rename_i f hf
  split at h<;>try (cases h;done)
  rename_i v ws' dY wq hv
  have bU:=fun hb hc=>Ma _ (w:=w) #[] hv (W:=W) hb hc
  simp only[RH.to,Array.empty_append] at bU
  have key:(∀b∈wq,b=W)→((c=iY∧wq=[])∨lU ty W w c)→∀cs,stepG P main (G ⟨fn,tmps,todo,[],.returning,kind,ro⟩ cs) w=GStep.after (seen P fn dY.toArray) (doReturn P main ⟨fn,tmps,todo,[],.returning,kind,ro⟩ cs none v (MC W w ws')):=by
   intro hb hc cs
   simp only[G,stepG,unwind,hf,bU hb hc]
  split at h
  ·split at h<;>try (cases h;done)
   ·simp only[Option.some.injEq,Prod.mk.injEq] at h
    obtain⟨rfl,rfl,rfl,rfl⟩:=h
    simp only[OV.is]
    rw[key hb hc]
    simp only[List.cons_append,doReturn,GStep.after,Array.append_empty,toArr,G]
   split at h<;>try (cases h;done)
   rename_i q fR hmq
   simp only[Option.some.injEq,Prod.mk.injEq] at h
   obtain⟨rfl,rfl,rfl,rfl⟩:=h
   simp only[OV.is]
   rw[key hb hc]
   simp only[List.cons_append,doReturn,hmq,GStep.after,Array.append_empty,toArr,G]
  split at h<;>try (cases h;done)
  ·simp only[Option.some.injEq,Prod.mk.injEq] at h
   obtain⟨rfl,rfl,rfl,rfl⟩:=h
   intro q IB hq
   subst hq
   rw[key hb hc]
   simp only[List.nil_append,doReturn,GStep.after,Array.append_empty,toArr,G]
  simp only[Option.some.injEq,Prod.mk.injEq] at h
  obtain⟨rfl,rfl,rfl,rfl⟩:=h
  intro q IB hq hmq
  subst hq
  rw[key hb hc]
  rcases hmq with hmq| ⟨ch,hmq⟩
  ·simp only[List.nil_append,doReturn,hmq,GStep.after,Array.append_empty,toArr,G]
  simp only[List.nil_append,doReturn,hmq,GStep.after,Array.append_empty,toArr,G]
 rename_i d ds
 cases hd:aB0 d.target with
 |false=>rw[hd] at h;cases h
 |true=>
 rw[hd] at h;simp only[cond_true] at h
 rcases d with ⟨tg,args⟩
 cases tg with
 |fn f cap=>
  split at h<;>try (cases h;done)
  all_goals
   rename_i hv
   simp only[Option.some.injEq,Prod.mk.injEq] at h
   obtain⟨rfl,rfl,rfl,rfl⟩:=h
   have bU:=Ma _ (w:=w) #[] hv hb hc
   simp only[RH.to,Array.empty_append] at bU
   simp only[OV.is]
   simp only[G,stepG,unwind,callDeferred,bU,GStep.after,toArr,Array.append_empty,Bool.false_and,Bool.false_eq_true,if_false,List.cons_append]
 |_=>cases hd
theorem qM(h:P0 P ty c fr gY=some (o,ws,es,bs))(hb:∀b∈bs,b=W)(hc:(c=iY∧bs=[])∨lU ty W w c)(cs:List Frame)(main:Bool):o.is P main (G fr (gY++cs)) w (MC W w ws) es.toArray cs:=by
 unfold P0 at h
 split at h<;>try (cases h;done)
 ·rename_i hm
  split at h
  ·rename_i nA hfr
   simp only[Option.some.injEq,Prod.mk.injEq] at h
   obtain⟨rfl,rfl,rfl,rfl⟩:=h
   exact anT hm hfr w
  exact ad5 hm h hb hc cs main
 rename_i hm
 exact akO hm h hb hc cs main
end
def aiK:Event→Option (Nat×Nat×List Nat)
 | ⟨.mark .disable,false,true⟩=>some (1,0,[])
 | ⟨.mark .enable,false,true⟩=>some (2,0,[])
 | ⟨.mark (.releaseMerge ⟨b,o,none⟩),false,true⟩=>some (3,o,[b])
 | ⟨.mark (.acquire ⟨b,o,none⟩),false,true⟩=>some (4,o,[b])
 | ⟨.mark (.read ⟨b,o,none⟩),false,true⟩=>some (5,o,[b])
 | ⟨.mark (.write ⟨b,o,none⟩),false,true⟩=>some (6,o,[b])
 | ⟨.cell ⟨b,o,none⟩,false,true⟩=>some (7,o,[b])
 | ⟨.cell ⟨b,o,none⟩,true,true⟩=>some (8,o,[b])
 |_=>none
def Vo(W:Nat)(x:Nat×Nat):Event:=
 match x.1 with
 |1=>said .disable
 |2=>said .enable
 |3=>said (.releaseMerge ⟨W,x.2,none⟩)
 |4=>said (.acquire ⟨W,x.2,none⟩)
 |5=>said (.read ⟨W,x.2,none⟩)
 |6=>said (.write ⟨W,x.2,none⟩)
 |7=>⟨.cell ⟨W,x.2,none⟩,false,true⟩
 |_=>⟨.cell ⟨W,x.2,none⟩,true,true⟩
theorem aiJ{e:Event}{k o:Nat}{bs:List Nat}(h:aiK e=some (k,o,bs))(hb:∀b∈bs,b=W):e=Vo W (k,o):=by
 unfold aiK at h
 split at h<;>try (cases h;done)
 all_goals
  simp only[Option.some.injEq,Prod.mk.injEq] at h
  obtain⟨rfl,rfl,rfl⟩:=h
 ·rfl
 ·rfl
 all_goals
  have:=hb _ (List.mem_singleton.2 rfl)
  subst this
  rfl
def HG:List Event→Option (List (Nat×Nat)×List Nat)
 | []=>some ([],[])
 |e::l=>match aiK e,HG l with
  |some (k,o,b),some (r,bs)=>some ((k,o)::r,b++bs)
  |_,_=>none
theorem Lg:∀ {es:List Event} {ks:List (Nat×Nat)} {bs:List Nat},HG es=some (ks,bs)→(∀b∈bs,b=W)→es=ks.map (Vo W)
 | [],ks,bs,h,hb=>by simp only[HG,Option.some.injEq,Prod.mk.injEq] at h;obtain⟨rfl,rfl⟩:=h;rfl
 |e::l,ks,bs,h,hb=>by
  simp only[HG] at h
  split at h<;>try (cases h;done)
  rename_i k o b r wq h1 h2
  simp only[Option.some.injEq,Prod.mk.injEq] at h
  obtain⟨rfl,rfl⟩:=h
  rw[List.map_cons,←aiJ h1 (fun x hx=>hb x (by simp[hx])),←Lg h2 (fun x hx=>hb x (by simp[hx]))]
abbrev Bl:=Option (List Nat)
def ajb:List Nat→Bl→Bl
 |a,some b=>some (a++b)
 |_,none=>none
def both:Bl→Bl→Bl
 |some a,some b=>some (a++b)
 |_,_=>none
def ajh(f:α→Bl):List α→Bl
 | []=>some []
 |x::l=>both (f x) (ajh f l)
theorem Od{a bs:List Nat}{x:Bl}(h:ajb a x=some bs)(hb:∀b∈bs,b=W):(∀b∈a,b=W)∧∃y,x=some y∧∀b∈y,b=W:=by
 cases x with
 |none=>cases h
 |some y=>
  simp only[ajb,Option.some.injEq] at h;subst h
  exact⟨fun b hm=>hb b (by simp[hm]),y,rfl,fun b hm=>hb b (by simp[hm])⟩
theorem A1{bs:List Nat}{x y:Bl}(h:both x y=some bs)(hb:∀b∈bs,b=W):(∃a,x=some a∧∀b∈a,b=W)∧∃a,y=some a∧∀b∈a,b=W:=by
 cases x with
 |none=>cases h
 |some a=>
  cases y with
  |none=>cases h
  |some b=>
   simp only[both,Option.some.injEq] at h;subst h
   exact⟨⟨a,rfl,fun b hm=>hb b (by simp[hm])⟩,b,rfl,fun b hm=>hb b (by simp[hm])⟩
theorem E8{f:α→Bl}:∀ {l:List α} {bs:List Nat},ajh f l=some bs→(∀b∈bs,b=W)→∀x∈l,∃a,f x=some a∧∀b∈a,b=W
 | [],_,_,_,x,hx=>by cases hx
 |y::l,bs,h,hb,x,hx=>by
  obtain⟨h1,h2,h3,h4⟩:=A1 h hb
  rcases List.mem_cons.1 hx with rfl|hx
  ·exact h1
  exact E8 h3 h4 x hx
def Dx(P:Program)(ty:TypeId):Nat→Frame→List Frame→(Frame→List Frame→Bl)→Bl
 |0,_,_,_=>none
 |n+1,fr,gY,k=>match P0 P ty iY fr gY with
  |some (.go nA fR,[],[],bs)=>ajb bs (Dx P ty n nA fR k)
  |_=>k fr gY
def aq8(P:Program)(ty:TypeId)(c:Lz)(fr:Frame)(gY:List Frame):Option (Frame×List Frame×List (Nat×Value)×List (Nat×Nat)×List Nat×List Nat):=
 match P0 P ty c fr gY with
 |some (.go nA fR,ws,es,bs)=>match HG es with
  |some (ks,b2)=>some (nA,fR,ws,ks,bs,b2)
  |none=>none
 |_=>none
def i64(n:Int):Value:= .int .u64 n
def i32(n:Int):Value:= .int .u32 n
def VA:List (Nat×Nat)→List (Nat×Nat)→Bool
 | [],[]=>true
 | (a,b)::l,(c,d)::m=>Nat.beq a c&&(Nat.beq b d&&VA l m)
 |_,_=>false
theorem YB:∀ {l m:List (Nat×Nat)},VA l m=true→l=m
 | [],[],_=>rfl
 | (a,b)::l,(c,d)::m,h=>by
  simp only[VA,Bool.and_eq_true] at h
  rw[Nat.eq_of_beq_eq_true h.1,Nat.eq_of_beq_eq_true h.2.1,YB h.2.2]
 | [],_::_,h=>by simp[VA] at h
 |_::_,[],h=>by simp[VA] at h
def abj:List (Nat×Value)→Option (Nat×IntKind×Int)→Bool
 | [],none=>true
 | [(o,.int k n)],some (o',k',n')=>Nat.beq o o'&&(decide (k=k')&&decide (n=n'))
 |_,_=>false
theorem abi{l:List (Nat×Value)}(h:abj l none=true):l=[]:=by
 unfold abj at h
 split at h
 ·rfl
 ·rename_i heq;cases heq
 cases h
theorem abh{l:List (Nat×Value)}{o:Nat}{k:IntKind}{n:Int}(h:abj l (some (o,k,n))=true):l=[(o,.int k n)]:=by
 unfold abj at h
 split at h
 ·rename_i heq;cases heq
 ·rename_i heq
  cases heq
  simp only[Bool.and_eq_true,decide_eq_true_eq] at h
  rw[Nat.eq_of_beq_eq_true h.1,h.2.1,h.2.2]
 cases h
def DT(P:Program)(ty:TypeId)(c:Lz)(m:Bool)(wr:Option (Nat×IntKind×Int))(ks:List (Nat×Nat))(fr:Frame)(gY:List Frame)(k:Frame→List Frame→Bl):Bl:=
 match aq8 P ty c fr gY with
 |some (nA,fR,ws,ks',b1,b2)=>bif abj ws wr&&(VA ks' ks&&(!m||b1.isEmpty)) then ajb b1 (ajb b2 (k nA fR)) else none
 |none=>none
section
variable {P:Program} {ty:TypeId} {W:Nat}
theorem akH{c:Lz}{fR:List Frame}{ws:List (Nat×Value)}{ks:List (Nat×Nat)}{b1 b2:List Nat}(h:aq8 P ty c fr gY=some (nA,fR,ws,ks,b1,b2))(h1:∀b∈b1,b=W)(h2:∀b∈b2,b=W)
 {w:World}(hc:(c=iY∧b1=[])∨lU ty W w c)(cs:List Frame)(main:Bool):stepG P main (G fr (gY++cs)) w= .go (G nA (fR++cs)) (MC W w ws) (ks.map (Vo W)).toArray:=by
 unfold aq8 at h
 split at h<;>try (cases h;done)
 rename_i h0
 split at h<;>try (cases h;done)
 rename_i hk
 simp only[Option.some.injEq,Prod.mk.injEq] at h
 obtain⟨rfl,rfl,rfl,rfl,rfl,rfl⟩:=h
 have:=qM h0 h1 hc cs main
 simp only[OV.is] at this
 rw[this,Lg hk h2]
def wrote(W:Nat)(w:World):Option (Nat×IntKind×Int)→World
 |none=>w
 |some (o,k,n)=>w.setCell ⟨W,o,none⟩ (.int k n)
theorem gG{c:Lz}{m:Bool}{x:Option (Nat×IntKind×Int)}{ks:List (Nat×Nat)}{k:Frame→List Frame→Bl}{bs:List Nat}(h:DT P ty c m x ks fr gY k=some bs)(hb:∀b∈bs,b=W):
 ∃nA fR wq,k nA fR=some wq∧(∀b∈wq,b=W)∧∀cs main w,((c=iY∧m=true)∨lU ty W w c)→stepG P main (G fr (gY++cs)) w= .go (G nA (fR++cs)) (wrote W w x) (ks.map (Vo W)).toArray:=by
 unfold DT at h
 split at h<;>try (cases h;done)
 rename_i nA fR ws ks' b1 b2 hv
 cases hq:(abj ws x&&(VA ks' ks&&(!m||b1.isEmpty))) with
 |false=>rw[hq] at h;cases h
 |true=>
 rw[hq] at h;simp only[cond_true] at h
 simp only[Bool.and_eq_true] at hq
 obtain⟨q1,q2,q3⟩:=hq
 obtain⟨h1,y,hy,hy'⟩:=Od h hb
 obtain⟨h2,z,hz,D9⟩:=Od hy hy'
 refine⟨nA,fR,z,hz,D9,fun cs main w hc=>?_⟩
 have:=akH hv h1 h2 (w:=w) (by
  rcases hc with ⟨hc,hm⟩|hc
  ·subst hm
   simp at q3
   exact .inl ⟨hc,q3⟩
  exact .inr hc) cs main
 rw[this,YB q2]
 cases x with
 |none=>rw[abi q1];rfl
 |some x=>
  obtain⟨o,kd,n⟩:=x
  rw[abh q1];rfl
theorem U7{k:Frame→List Frame→Bl}:∀ {n:Nat} {fr:Frame} {gY:List Frame} {bs:List Nat},Dx P ty n fr gY k=some bs→(∀b∈bs,b=W)→
 ∀(T:Frame→List Frame→Prop),(∀nA fR wq,k nA fR=some wq→(∀b∈wq,b=W)→T nA fR)→
 (∀fr gY nA fR,(∀cs main w,lU ty W w iY→stepG P main (G fr (gY++cs)) w= .go (G nA (fR++cs)) w #[])→T nA fR→T fr gY)→T fr gY
 |0,_,_,_,h,_,_,_,_=>by cases h
 |n+1,fr,gY,bs,h,hb,T,hk,hs=>by
  simp only[Dx] at h
  split at h
  ·rename_i nA fR b1 h0
   obtain⟨h1,y,hy,hy'⟩:=Od h hb
   refine hs fr gY nA fR (fun cs main w hc=>?_) (U7 hy hy' T hk hs)
   have:=qM h0 h1 (.inr hc) cs main
   simp only[OV.is] at this
   rw[this];rfl
  exact hk _ _ _ h hb
end
section
variable {ι:Type} (E:dM ι)
theorem Gv{w:World}(h:E.live w):lU E.ty E.Wg w iY:=by
 obtain⟨st,sm,h⟩:=h
 exact⟨_,_,h,by simp,by simp⟩
theorem oA{w:World}(h:WgAt E.ty E.Wg w st sm):lU E.ty E.Wg w (some (i64 st),some (i32 sm)):=⟨_,_,h,by simp[i64],by simp[i32]⟩
theorem arS{w:World}(h:WgAt E.ty E.Wg w st sm):lU E.ty E.Wg w (none,some (i32 sm)):=⟨_,_,h,by simp,by simp[i32]⟩
variable {E}
theorem fp{Stop:Goroutine→Prop}{k:Frame→List Frame→Bl}{bs:List Nat}(h:Dx E.P E.ty n fr gY k=some bs)(hb:∀b∈bs,b=E.Wg)
 (hk:∀nA fR wq,k nA fR=some wq→(∀b∈wq,b=E.Wg)→Stop (G nA (fR++cs))):E.pure main Stop (G fr (gY++cs)):=by
 refine U7 h hb (fun fr gY=>E.pure main Stop (G fr (gY++cs))) (fun nA fR wq h1 h2=>⟨0,hk _ _ _ h1 h2⟩) fun fr gY nA fR h1 ⟨m,hm⟩=>⟨m+1,rfl,_,fun w hw=>h1 cs main w (Gv E hw),hm⟩
theorem NF{L:Nat→Option Obj}{pend d0:Nat}{os:List ι}{s:St}{k:Frame→List Frame→Bl}{bs:List Nat}(h:Dx E.P E.ty n fr gY k=some bs)(hb:∀b∈bs,b=E.Wg)
 (hk:∀nA fR wq,k nA fR=some wq→(∀b∈wq,b=E.Wg)→TC E L Q pend false os d0 (G nA (fR++cs)) s):TC E L Q pend false os d0 (G fr (gY++cs)) s:=
 U7 h hb (fun fr gY=>TC E L Q pend false os d0 (G fr (gY++cs)) s) hk fun fr gY nA fR h1 hT=>We rfl (fun w hw=>h1 cs true w (Gv E hw)) hT
def goR(P:Program)(ty:TypeId):Nat→Frame→List Frame→Bl
 |0,_,_=>none
 |n+1,fr,gY=>match P0 P ty iY fr gY with
  |some (.go nA fR,[],[],[])=>goR P ty n nA fR
  |some (.ret (.tuple ⟨[]⟩),[],[],[])=>some []
  |_=>none
theorem U5{c:Frame}:∀ {n:Nat} {fr:Frame} {gY:List Frame} {bs:List Nat},goR P ty n fr gY=some bs→
 ∀(main:Bool) (T:Goroutine→Prop),T (G (c.finish (.tuple #[])) cs)→(∀g g',g.status= .running→g'.status= .running→(∀w,stepG P main g w= .go g' w #[])→T g'→T g)→T (G fr (gY++c::cs))
 |0,_,_,_,h,_,_,_,_=>by cases h
 |n+1,fr,gY,bs,h,main,T,hT,hs=>by
  simp only[goR] at h
  split at h
  ·rename_i nA fR h0
   refine hs _ _ rfl rfl (fun w=>?_) (U5 h main T hT hs)
   have:=qM (W:=0) (w:=w) h0 (by simp) (.inl ⟨rfl,rfl⟩) (c::cs) main
   simp only[OV.is] at this
   rw[this];rfl
  ·rename_i h0
   refine hs _ _ rfl rfl (fun w=>?_) hT
   have:=qM (W:=0) (w:=w) h0 (by simp) (.inl ⟨rfl,rfl⟩) (c::cs) main
   simp only[OV.is] at this
   have h2:=this c cs rfl
   rw[h2];rfl
  cases h
def Qf:List Event→Bool
 | []=>true
 |e::l=>e.mute&&Qf l
def goQ(P:Program)(ty:TypeId):Nat→Nat→Frame→List Frame→Bl
 |0,_,_,_=>none
 |n+1,d,fr,gY=>match P0 P ty iY fr gY with
  |some (.go nA fR,[],es,[])=>bif Qf es then goQ P ty n (deafBehind d es.toArray) nA fR else none
  |some (.ar6,[],[],[])=>bif Nat.beq d 0 then some [] else none
  |_=>none
theorem Qe:∀ {es:List Event},Qf es=true→∀e∈es,e.mute=true
 | [],_,e,he=>by cases he
 |x::l,h,e,he=>by
  simp only[Qf,Bool.and_eq_true] at h
  rcases List.mem_cons.1 he with rfl|he
  ·exact h.1
  exact Qe h.2 e he
theorem U6{c:Frame}{q:Nat}(hc:c.mode= .returning∨∃ch,c.mode= .panicking [⟨ch,false,true⟩])(hq:QuitsD P q 0 (G c cs)):∀ {n d:Nat} {fr:Frame} {gY:List Frame} {bs:List Nat},goQ P ty n d fr gY=some bs→
 ∃q,QuitsD P q d (G fr (gY++c::cs))
 |0,_,_,_,_,h=>by cases h
 |n+1,d,fr,gY,bs,h=>by
  simp only[goQ] at h
  split at h
  ·rename_i nA fR es h0
   cases hm:Qf es with
   |false=>rw[hm] at h;cases h
   |true=>
   rw[hm] at h;simp only[cond_true] at h
   obtain⟨q',EV⟩:=U6 hc hq h
   refine⟨q'+1,.inr ⟨rfl,_,es.toArray,fun e he=>Qe hm e (by simpa using he),fun w=>?_,EV⟩⟩
   have:=qM (W:=0) (w:=w) h0 (by simp) (.inl ⟨rfl,rfl⟩) (c::cs) false
   simp only[OV.is] at this
   rw[this];rfl
  ·rename_i h0
   cases hd:Nat.beq d 0 with
   |false=>rw[hd] at h;cases h
   |true=>
   have:d=0:=Nat.eq_of_beq_eq_true hd
   subst this
   refine⟨q+1,.ctl rfl (fun w=>?_) hq⟩
   have:=qM (W:=0) (w:=w) h0 (by simp) (.inl ⟨rfl,rfl⟩) (c::cs) false
   simp only[OV.is] at this
   have h2:=this c cs rfl hc
   rw[h2];rfl
  cases h
end
section
variable (P:Program) (ty:TypeId)
abbrev Yt(a b:Int):Lz:=(some (i64 a),some (i32 b))
abbrev azR:List (Nat×Nat):=[(1,0),(7,1),(8,1),(2,0)]
def aiX(f:Frame)(s:List Frame):Bl:=bif mayWake P (G f []) then DT P ty (Yt 0 0) false (some (1,.u32,1)) azR f s (goQ P ty 300 1) else none
def aqF(f:Frame)(s:List Frame):Bl:=DT P ty (Yt 1 0) false (some (0,.u64,0)) [(8,0)] f s fun f s=>Dx P ty 300 f s (aiX P ty)
def aqG(f:Frame)(s:List Frame):Bl:=DT P ty (Yt 1 0) false none [(7,0)] f s fun f s=>Dx P ty 300 f s (aqF P ty)
def Vt(f:Frame)(s:List Frame)(v wt:Nat):Bl:=
 DT P ty (Yt (((v+1:Nat):Int)*KK+(wt:Int)) 0) false (some (0,.u64,(v:Int)*KK+(wt:Int))) [(7,0),(8,0)] f s fun f s=>bif Nat.beq v 0&&Nat.beq wt 1 then Dx P ty 300 f s (aqG P ty) else goQ P ty 300 1 f s
def aqH(mx:Nat)(f:Frame)(s:List Frame):Bl:=ajh (fun v=>both (Vt P ty f s v 0) (Vt P ty f s v 1)) (List.range mx)
def aqE(mx:Nat)(f:Frame)(s:List Frame):Bl:=DT P ty iY true none [(1,0)] f s fun f s=>Dx P ty 300 f s (aqH P ty mx)
def aqD(mx:Nat)(f:Frame)(s:List Frame):Bl:=DT P ty iY true none [(3,0)] f s fun f s=>Dx P ty 300 f s (aqE P ty mx)
def xd(mx:Nat)(f:Frame):Bl:=Dx P ty 300 f [] (aqD P ty mx)
def aqI(f:Frame)(s:List Frame):Bl:=DT P ty iY true none [(4,0)] f s (goR P ty 300)
def Ys(f:Frame)(s:List Frame):Bl:=DT P ty iY true none [(2,0)] f s fun f s=>Dx P ty 300 f s (aqI P ty)
def aqA(f:Frame)(s:List Frame):Bl:=DT P ty (Yt 0 0) false none [(7,0)] f s fun f s=>Dx P ty 300 f s (Ys P ty)
def aFw(c:Lz)(f:Frame)(s:List Frame):Bl:=match P0 P ty c f s with
 |some (.block,[],[],bs)=>some bs
 |_=>none
def aqB(f:Frame)(s:List Frame):Bl:=both (aFw P ty (none,some (i32 0)) f s) (DT P ty (Yt 0 1) false (some (1,.u32,0)) azR f s fun f s=>Dx P ty 300 f s (aqA P ty))
def aqz(f:Frame)(s:List Frame):Bl:=DT P ty iY true none [(6,1)] f s fun f s=>Dx P ty 300 f s (aqB P ty)
def aqC(alR:Frame→List Frame→Bl)(vs:Nat)(f:Frame)(s:List Frame):Bl:=
 both (DT P ty (Yt ((vs:Int)*KK) 0) false (some (0,.u64,(vs:Int)*KK+1)) [(7,0),(8,0)] f s fun f s=>Dx P ty 300 f s (aqz P ty))
  (ajh (fun v:Nat=>DT P ty (Yt ((v:Int)*KK) 0) false none [(7,0)] f s fun f s=>Dx P ty 300 f s alR) (List.range vs))
def RR:Nat→Frame→List Frame→Bl
 |0,f,s=>DT P ty (Yt 0 0) false none [(7,0)] f s fun f s=>Dx P ty 300 f s (Ys P ty)
 |b+1,f,s=>both (DT P ty (Yt 0 0) false none [(7,0)] f s fun f s=>Dx P ty 300 f s (Ys P ty))
  (ajh (fun v:Nat=>DT P ty (Yt (((v+1:Nat):Int)*KK) 0) false none [(7,0)] f s fun f s=>Dx P ty 300 f s (aqC P ty (RR b) (v+1))) (List.range (b+1)))
def AW(mx:Nat)(f:Frame):Bl:=Dx P ty 300 f [] fun f s=>DT P ty iY true none [(1,0)] f s fun f s=>Dx P ty 300 f s (RR P ty mx)
def HO(v:Nat)(f:Frame):Bl:=
 Dx P ty 300 f [] fun f s=>DT P ty iY true none [(1,0)] f s fun f s=>Dx P ty 300 f s fun f s=>
  DT P ty (Yt ((v:Int)*KK) 0) false (some (0,.u64,((v+1:Nat):Int)*KK)) [(7,0),(8,0)] f s fun f s=>Dx P ty 300 f s fun f s=>
   bif Nat.beq v 0 then DT P ty iY false none [(5,1)] f s fun f s=>Dx P ty 300 f s fun f s=>DT P ty iY true none [(2,0)] f s (goR P ty 300)
   else DT P ty iY true none [(2,0)] f s (goR P ty 300)
end
section
variable {ι:Type} {E:dM ι}
section leave
variable {c:Frame} {cs:List Frame} (hc:c.mode= .returning∨∃ch,c.mode= .panicking [⟨ch,false,true⟩]) {q0:Nat} (hq:QuitsD E.P q0 0 (G c cs))
include hc hq
theorem aiW{bs:List Nat}(h:aiX E.P E.ty f s=some bs)(hb:∀b∈bs,b=E.Wg):E.D4 (G f (s++c::cs)):=by
 unfold aiX at h
 cases hm:mayWake E.P (G f []) with
 |false=>rw[hm] at h;cases h
 |true=>
 rw[hm] at h;simp only[cond_true] at h
 obtain⟨f',s',wq,h1,h2,h3⟩:=gG h hb
 exact⟨rfl,hm,_,fun w hw=>h3 _ _ w (.inr (oA E hw)),U6 hc hq h1⟩
theorem aiY{bs:List Nat}(h:aqF E.P E.ty f s=some bs)(hb:∀b∈bs,b=E.Wg):E.D3 (G f (s++c::cs)):=by
 obtain⟨f',s',wq,h1,h2,h3⟩:=gG h hb
 exact⟨rfl,_,fun w hw=>h3 _ _ w (.inr (oA E hw)),fp h1 h2 fun _ _ _ k1 k2=>aiW hc hq k1 k2⟩
theorem aiZ{bs:List Nat}(h:aqG E.P E.ty f s=some bs)(hb:∀b∈bs,b=E.Wg):E.D2 (G f (s++c::cs)):=by
 obtain⟨f',s',wq,h1,h2,h3⟩:=gG h hb
 exact⟨rfl,_,fun w hw=>h3 _ _ w (.inr (oA E hw)),fp h1 h2 fun _ _ _ k1 k2=>aiY hc hq k1 k2⟩
theorem ai0{bs:List Nat}(h:aqH E.P E.ty E.max f s=some bs)(hb:∀b∈bs,b=E.Wg):E.D1 (G f (s++c::cs)):=by
 refine⟨rfl,fun v wt hwt hv=>?_⟩
 obtain⟨a,h1,h2⟩:=E8 h hb v (List.mem_range.2 hv)
 have key:∃a,Vt E.P E.ty f s v wt=some a∧∀b∈a,b=E.Wg:=by
  obtain⟨k1,k2⟩:=A1 h1 h2
  match wt,hwt with
  |0,_=>exact k1
  |1,_=>exact k2
 obtain⟨a',k1,k2⟩:=key
 obtain⟨f',s',wq,j1,j2,j3⟩:=gG k1 k2
 refine⟨_,fun w hw=>j3 _ _ w (.inr (oA E hw)),fun hh=>?_,fun hh=>?_⟩
 ·obtain⟨rfl,rfl⟩:=hh
  exact fp j1 j2 fun _ _ _ k1 k2=>aiZ hc hq k1 k2
 have:(Nat.beq v 0&&Nat.beq wt 1)=false:=by
  cases hx:(Nat.beq v 0&&Nat.beq wt 1) with
  |false=>rfl
  |true=>
   simp only[Bool.and_eq_true] at hx
   exact absurd ⟨Nat.eq_of_beq_eq_true hx.1,Nat.eq_of_beq_eq_true hx.2⟩ hh
 rw[this] at j1;simp only[cond_false] at j1
 exact U6 hc hq j1
theorem aiU{bs:List Nat}(h:aqE E.P E.ty E.max f s=some bs)(hb:∀b∈bs,b=E.Wg):E.K1 (G f (s++c::cs)):=by
 obtain⟨f',s',wq,h1,h2,h3⟩:=gG h hb
 exact⟨rfl,_,fun w=>h3 _ _ w (.inl ⟨rfl,rfl⟩),fp h1 h2 fun _ _ _ k1 k2=>ai0 hc hq k1 k2⟩
theorem aiT{bs:List Nat}(h:aqD E.P E.ty E.max f s=some bs)(hb:∀b∈bs,b=E.Wg):E.R0 (G f (s++c::cs)):=by
 obtain⟨f',s',wq,h1,h2,h3⟩:=gG h hb
 exact⟨rfl,_,fun w=>h3 _ _ w (.inl ⟨rfl,rfl⟩),fp h1 h2 fun _ _ _ k1 k2=>aiU hc hq k1 k2⟩
theorem HN{bs:List Nat}(h:xd E.P E.ty E.max f=some bs)(hb:∀b∈bs,b=E.Wg):E.pure false E.R0 (G f (c::cs)):=
 fp (gY:=[]) h hb fun _ _ _ k1 k2=>aiT hc hq k1 k2
end leave
section close
variable {c:Frame} {cs:List Frame} {st:St} (hT:eF E.P false E.Ji (G (c.finish (.tuple #[])) cs) st)
include hT
theorem ai1{bs:List Nat}(h:aqI E.P E.ty f s=some bs)(hb:∀b∈bs,b=E.Wg):E.Aq st (G f (s++c::cs)):=by
 obtain⟨f',s',wq,h1,h2,h3⟩:=gG h hb
 have key:=U5 (c:=c) (cs:=cs) h1 false (fun g=>eF E.P false E.Ji g st) hT fun g g' hg hg' bS hT'=>(dN _ _ _).go hg hg' bS hT'
 obtain⟨tr,gV,hle,ht⟩:=key
 exact⟨rfl,_,fun w=>h3 _ _ w (.inl ⟨rfl,rfl⟩),tr,gV,hle,ht⟩
theorem HM{bs:List Nat}(h:Ys E.P E.ty f s=some bs)(hb:∀b∈bs,b=E.Wg):E.Ke st (G f (s++c::cs)):=by
 obtain⟨f',s',wq,h1,h2,h3⟩:=gG h hb
 exact⟨rfl,_,fun w=>h3 _ _ w (.inl ⟨rfl,rfl⟩),fp h1 h2 fun _ _ _ k1 k2=>ai1 hT k1 k2⟩
theorem aiQ{bs:List Nat}(h:aqA E.P E.ty f s=some bs)(hb:∀b∈bs,b=E.Wg):E.W4 st (G f (s++c::cs)):=by
 obtain⟨f',s',wq,h1,h2,h3⟩:=gG h hb
 exact⟨rfl,_,fun w hw=>h3 _ _ w (.inr (oA E hw)),fp h1 h2 fun _ _ _ k1 k2=>HM hT k1 k2⟩
theorem aiR{bs:List Nat}(h:aqB E.P E.ty f s=some bs)(hb:∀b∈bs,b=E.Wg):E.W3 st (G f (s++c::cs)):=by
 obtain⟨⟨b1,k1,k2⟩,b2,k3,k4⟩:=A1 h hb
 obtain⟨f',s',wq,h1,h2,h3⟩:=gG k3 k4
 refine⟨rfl,rfl,fun w n hw=>?_,_,fun w hw=>h3 _ _ w (.inr (oA E hw)),fp h1 h2 fun _ _ _ k1 k2=>aiQ hT k1 k2⟩
 unfold aFw at k1
 split at k1<;>try (cases k1;done)
 rename_i h0
 simp only[Option.some.injEq] at k1;subst k1
 have:=qM h0 k2 (w:=w) (.inr (arS E hw)) (c::cs) false
 simp only[OV.is] at this
 rw[this];rfl
theorem aiP{bs:List Nat}(h:aqz E.P E.ty f s=some bs)(hb:∀b∈bs,b=E.Wg):E.Wr st (G f (s++c::cs)):=by
 obtain⟨f',s',wq,h1,h2,h3⟩:=gG h hb
 exact⟨rfl,_,fun w=>h3 _ _ w (.inl ⟨rfl,rfl⟩),fp h1 h2 fun _ _ _ k1 k2=>aiR hT k1 k2⟩
theorem aiS{alR:Frame→List Frame→Bl}{ajq:Goroutine→Prop}(hm:∀f s bs,alR f s=some bs→(∀b∈bs,b=E.Wg)→ajq (G f (s++c::cs))){vs:Nat}{bs:List Nat}(h:aqC E.P E.ty alR vs f s=some bs)(hb:∀b∈bs,b=E.Wg):
 E.W2 (E.pure false ajq) st vs (G f (s++c::cs)):=by
 obtain⟨⟨b1,k1,k2⟩,b2,k3,k4⟩:=A1 h hb
 obtain⟨f',s',wq,h1,h2,h3⟩:=gG k1 k2
 refine⟨rfl,⟨_,fun w hw=>h3 _ _ w (.inr (oA E hw)),fp h1 h2 fun _ _ _ k1 k2=>aiP hT k1 k2⟩,fun v hv=>?_⟩
 obtain⟨a,j1,j2⟩:=E8 k3 k4 v (List.mem_range.2 hv)
 obtain⟨f2,s2,bs2,i1,i2,i3⟩:=gG j1 j2
 exact⟨_,fun w hw=>i3 _ _ w (.inr (oA E hw)),fp i1 i2 fun _ _ _ k1 k2=>hm _ _ _ k1 k2⟩
theorem RQ:∀ {b:Nat} {f:Frame} {s:List Frame} {bs:List Nat},RR E.P E.ty b f s=some bs→(∀b∈bs,b=E.Wg)→E.W1 st b (G f (s++c::cs))
 |0,f,s,bs,h,hb=>by
  simp only[RR] at h
  obtain⟨f',s',wq,h1,h2,h3⟩:=gG h hb
  exact⟨rfl,_,fun w hw=>h3 _ _ w (.inr (oA E hw)),fp h1 h2 fun _ _ _ k1 k2=>HM hT k1 k2⟩
 |b+1,f,s,bs,h,hb=>by
  simp only[RR] at h
  obtain⟨⟨b1,k1,k2⟩,b2,k3,k4⟩:=A1 h hb
  obtain⟨f',s',wq,h1,h2,h3⟩:=gG k1 k2
  refine⟨rfl,⟨_,fun w hw=>h3 _ _ w (.inr (oA E hw)),fp h1 h2 fun _ _ _ k1 k2=>HM hT k1 k2⟩,fun v hv1 hv2=>?_⟩
  obtain⟨u,rfl⟩:∃u,v=u+1:=⟨v-1,by omega⟩
  obtain⟨a,j1,j2⟩:=E8 k3 k4 u (List.mem_range.2 (by omega))
  obtain⟨f2,s2,bs2,i1,i2,i3⟩:=gG j1 j2
  exact⟨_,fun w hw=>i3 _ _ w (.inr (oA E hw)),fp i1 i2 fun _ _ _ k1 k2=>aiS hT (ajq:=E.W1 st b) (fun _ _ _ m1 m2=>RQ m1 m2) k1 k2⟩
theorem HL{bs:List Nat}(h:AW E.P E.ty E.max f=some bs)(hb:∀b∈bs,b=E.Wg):E.closes st (G f (c::cs)):=
 fp (gY:=[]) h hb fun _ _ _ k1 k2=>by
  obtain⟨f',s',wq,h1,h2,h3⟩:=gG k1 k2
  exact⟨rfl,_,fun w=>h3 _ _ w (.inl ⟨rfl,rfl⟩),fp h1 h2 fun _ _ _ k1 k2=>RQ hT k1 k2⟩
end close
theorem Ll{L:Nat→Option Obj}{os:List ι}{s:St}{c:Frame}{bs:List Nat}(h:HO E.P E.ty os.length f=some bs)(hb:∀b∈bs,b=E.Wg)(I2:os.length <E.max)
 (hT:TC E L Q 1 false os 0 (G (c.finish (.tuple #[])) cs) s):TC E L Q 0 false os 0 (G f (c::cs)) s:=by
 have pZ:∀ {f:Frame} {gY:List Frame} {bs:List Nat},DT E.P E.ty iY true none [(2,0)] f gY (goR E.P E.ty 300)=some bs→(∀b∈bs,b=E.Wg)→TC E L Q 1 false os 1 (G f (gY++c::cs)) s:=by
  intro f gY bs h hb
  obtain⟨f',s',wq,h1,h2,h3⟩:=gG h hb
  refine EK (lO:=1) (d':=0) rfl rfl (fun w st sm hw hz _=>⟨w,h3 _ _ w (.inl ⟨rfl,rfl⟩),eE.refl w,by obtain⟨rfl,rfl⟩:=hz rfl;exact hw⟩) (by intro e he;simp[Vo] at he;subst he;exact .inr (.inl rfl)) rfl id ?_
  exact U5 (c:=c) (cs:=cs) h1 true (fun g=>TC E L Q 1 false os 0 g s) hT fun g g' hg hg' bS hT'=>We hg (fun w _=>bS w) hT'
 refine NF (gY:=[]) h hb fun f1 s1 b1 k1 k2=>?_
 obtain⟨f',s',wq,h1,h2,h3⟩:=gG k1 k2
 refine EK (lO:=0) (d':=1) rfl rfl (fun w st sm hw hz _=>⟨w,h3 _ _ w (.inl ⟨rfl,rfl⟩),eE.refl w,by obtain⟨rfl,rfl⟩:=hz rfl;exact hw⟩) (by intro e he;simp[Vo] at he;subst he;exact .inl rfl) rfl id ?_
 refine NF h1 h2 fun f2 s2 b2 k1 k2=>?_
 obtain⟨f',s',wq,h1,h2,h3⟩:=gG k1 k2
 refine EK (lO:=1) (d':=1) rfl rfl (fun w st sm hw hz _=>⟨_,h3 _ _ w (.inr ?_),eE.set w 0 _,?_⟩) (by
  intro e he;simp[Vo] at he
  rcases he with rfl|rfl<;>exact nJ 0 _) rfl (fun _=>I2) ?_
 ·obtain⟨rfl,rfl⟩:=hz rfl
  exact oA E hw
 ·obtain⟨rfl,rfl⟩:=hz rfl
  exact Go.ConcR.WgAt.setSt hw _
 refine NF h1 h2 fun f3 s3 b3 k1 k2=>?_
 cases hz:Nat.beq os.length 0 with
 |false=>
  rw[hz] at k1;simp only[cond_false] at k1
  exact pZ k1 k2
 |true=>
  rw[hz] at k1;simp only[cond_true] at k1
  obtain⟨f',s',wq,h1,h2,h3⟩:=gG k1 k2
  refine akS rfl (fun w hw=>h3 _ _ w (.inr (Gv E hw)))<|NF h1 h2 fun f4 s4 b4 k1 k2=>pZ k1 k2
end
def CA(P:Program):Class:=fun main T=>Closed P main T
def ac9:Code→Nat
 | .seq a b=>ac9 a+ac9 b+1
 |_=>0
def gu(l:List Code):List Code:=l.flatMap iJ
section
variable {P:Program} {main:Bool} {T:Goroutine→St→Prop} {b:Frame} {k:List Item} {cs:List Frame} {a:Act} {s:St} {n LF:Nat} {D:List Deferred} {call:bZ} {ops:Array Oper}
 {ρ:aV} {ce e:Env} {m:Mem} {F:Nat×Obj→Prop} {R:Nat→Option Obj}
abbrev On(T:Goroutine→St→Prop)(b:Frame)(a:Act)(l:List Code)(k:List Item)(cs:List Frame)(s:St):Prop:=T (G (aK b a (l.map .code++k)) cs) s
theorem nB(hT:Closed P main T){c0:Code}:∀ {l:List Code},gu l=c0::rest→(∀l',gu l'=rest→T (G (aK b a (.code c0::(l'.map .code++k))) cs) s)→On T b a l k cs s:=by
 intro l
 generalize hn:(l.map ac9).sum=q
 induction q using Nat.strongRecOn generalizing l with
 |_ q ih=>
  intro hl h
  cases l with
  |nil=>cases hl
  |cons c l=>
   cases hc:c with
   |seq x y=>
    subst hc
    refine hT.go rfl rfl (g':=G (aK b a ((x::y::l).map .code++k)) cs) (fun w=>by simp[G,stepG,stepG.exec,aK])<|ih ((x::y::l).map ac9).sum ?_ rfl ?_ h
    ·rw[←hn];simp[ac9];omega
    rw[←hl];simp[gu,iJ]
   |_=>
    subst hc
    simp only[gu,List.flatMap_cons,iJ,List.singleton_append,List.cons.injEq] at hl
    obtain⟨rfl,hl⟩:=hl
    exact h l hl
theorem dF(hT:Closed P main T)(hl:gu l= .region id ops false::rest)(h:∀l',gu l'=rest→T (G (aK b a (.inRegion ops (List.range ops.size)::(l'.map .code++k))) cs) s):On T b a l k cs s:=
 nB hT hl fun l' yM=>hT.go rfl rfl (g':=G (aK b a (.inRegion ops (List.range ops.size)::(l'.map .code++k))) cs) (fun w=>by simp[G,stepG,stepG.exec,aK]) (h l' yM)
theorem Am(hT:Closed P main T){c:Operand}{x y:Code}{t:Bool}(hl:gu l= .cond c x y::rest)(hc:a.eval c= .bool t)(h:∀l',gu l'=rest→T (G (aK b a (.code (if t then x else y)::(l'.map .code++k))) cs) s):On T b a l k cs s:=
 nB hT hl fun l' yM=>hT.go rfl rfl (g':=G (aK b a (.code (if t then x else y)::(l'.map .code++k))) cs) (fun w=>by
  have he:=ky b a (.code (.cond c x y)::(l'.map .code++k))
  simp only[aK] at he
  simp only[G,stepG,stepG.exec,aK,he,hc]) (h l' yM)
theorem vk(hT:Closed P main T){c:Code}(hl:gu l= .block id c::rest)(h:∀l',gu l'=rest→On T b a [c] (.inBlock id::(l'.map .code++k)) cs s):On T b a l k cs s:=
 nB hT hl fun l' yM=>hT.go rfl rfl (g':=G (aK b a (.code c:: .inBlock id::(l'.map .code++k))) cs) (fun w=>by simp[G,stepG,stepG.exec,aK]) (show T (G (aK b a (.code c:: .inBlock id::(l'.map .code++k))) cs) s from h l' yM)
theorem Cs(hT:Closed P main T)(h:T (G (aK b a k) cs) s):T (G (aK b a (.inBlock id::k)) cs) s:=
 hT.go rfl rfl (g':=G (aK b a k) cs) (fun w=>by simp[G,stepG,stepG.exec,aK]) h
theorem ML(hT:Closed P main T){c:Code}(hl:gu l= .loop c::rest)(h:∀l',gu l'=rest→On T b a [c] (.inLoop c::(l'.map .code++k)) cs s):On T b a l k cs s:=
 nB hT hl fun l' yM=>hT.go rfl rfl (g':=G (aK b a (.code c:: .inLoop c::(l'.map .code++k))) cs) (fun w=>by simp[G,stepG,stepG.exec,aK]) (show T (G (aK b a (.code c:: .inLoop c::(l'.map .code++k))) cs) s from h l' yM)
theorem y6(hT:Closed P main T){c:Code}(h:On T b a [c] (.inLoop c::k) cs s):T (G (aK b a (.inLoop c::k)) cs) s:=
 hT.go rfl rfl (g':=G (aK b a (.code c:: .inLoop c::k)) cs) (fun w=>by simp[G,stepG,stepG.exec,aK]) h
theorem NS(hT:Closed P main T)(h:T (G (aK b a k) cs) s):T (G (aK b a (.code .skip::k)) cs) s:=
 hT.go rfl rfl (g':=G (aK b a k) cs) (fun w=>by simp[G,stepG,stepG.exec,aK]) h
theorem NT(hT:Closed P main T){k':List Item}(hk:exitTo id k=some k')(h:T (G (aK b a k') cs) s):T (G (aK b a (.code (.exit id)::k)) cs) s:=
 hT.go rfl rfl (g':=G (aK b a k') cs) (fun w=>by simp[G,stepG,stepG.exec,aK,hk]) h
theorem gN(hT:Closed P main T)(h:T (G (aK b a k) cs) s):T (G (aK b a (.inRegion ops []::k)) cs) s:=
 hT.go rfl rfl (g':=G (aK b a k) cs) (fun w=>by simp[G,stepG,stepG.exec,aK]) h
theorem qj(id:Nat):∀(l:List Code) (k:List Item),exitTo id (l.map .code++k)=exitTo id k
 | [],k=>rfl
 |c::l,k=>by
  rw[List.map_cons,List.cons_append]
  exact qj id l k
theorem sD(hT:Closed P main T){rest:List Nat}{o:Oper}(ho:ops[i]?=some o) (hw:Region.wanted o (yielded ops a.tmps)=true) (hk:b.kind≠ .early) (hb:b.roundOf=none)
 (h:bP P (execOp a.eval o) s (fun nx s'=>∃v,nx= .value v∧T (G (aK b (a.put o.dst v) (.inRegion ops rest::k)) cs) s') (fun _ _=>False)):T (G (aK b a (.inRegion ops (i::rest)::k)) cs) s:=by
 have jA:(b.kind==CallKind.early)=false:=by simpa using hk
 have gp:∀w,stepG P main (G (aK b a (.inRegion ops (i::rest)::k)) cs) w=stepG.apply P true (aK b a (.inRegion ops (i::rest)::k)) cs none (execOp a.eval o) w:=by
  intro w
  have he:=ky b a (.inRegion ops (i::rest)::k)
  simp only[aK] at he
  simp only[G,stepG,stepG.exec,aK,ho,Option.map_some,Option.getD_some,hw,if_true,stepG.oper,Frame.oper?,he]
  rw[hb]
 refine hT.step _ _ rfl fun w oX=>?_
 obtain⟨r,es,hr,hl⟩:=gz _ _ _ _ w #[] h oX
 rw[Array.empty_append] at hr
 have my:=gp w
 simp only[stepG.apply,if_true,hr] at my
 simp only[aK,jA,Bool.false_eq_true,if_false] at my
 cases r with
 |ok nx w'=>
  obtain⟨s',ht,v,rfl,hv⟩:=hl
  simp only[GStep.after,Array.append_empty] at my
  have lZ:=fC b a ops i rest k v
  rw[ho] at lZ
  simp only[Option.bind_some] at lZ
  rw[←lZ] at hv
  exact⟨_,_,_,s',my,rfl,ht.sub (ij P b.fn es),hv⟩
 |halt hh w'=>
  obtain⟨s',ht,hu⟩:=hl
  exact hu.elim
theorem dt(o:Oper)(f:Nat→Option Bool)(h:o.guard=none):Region.wanted o f=true:=by unfold Region.wanted;rw[h]
end
def St.freeze(s:St):St:=⟨fun b=>match s.rw.find? (fun x=>x.1==b) with
 |some x=>some x.2
 |none=>s.ro b,[]⟩
theorem og{l:List (Nat×Obj)}{b:Nat}{x:Nat×Obj}(h:l.find? (fun x=>x.1==b)=some x):x∈l∧x.1=b:=
 ⟨List.mem_of_find?_eq_some h,by simpa using List.find?_some h⟩
theorem vW{l:List (Nat×Obj)}(hn:(l.map (·.1)).Nodup){b:Nat}(h:(b,o)∈l):l.find? (fun x=>x.1==b)=some (b,o):=by
 induction l with
 |nil=>cases h
 |cons y l ih=>
  rw[List.map_cons,List.nodup_cons] at hn
  rcases List.mem_cons.1 h with rfl|h'
  ·simp
  have:y.1≠b:=fun e=>hn.1 (e▸List.mem_map.2 ⟨_,h',rfl⟩)
  rw[List.find?_cons_of_neg (by simpa using this)]
  exact ih hn.2 h'
theorem St.Cm(s:St):s.freeze.le s:=by
 refine⟨s.rw,by simp[St.freeze],fun b o h=>?_⟩
 simp only[St.freeze] at h
 split at h
 ·rename_i x hx
  obtain⟨h1,h2⟩:=og hx
  cases h
  subst h2
  exact .inr h1
 exact .inl h
theorem St.nz{s:St}{b:Nat}(h:s.ro b=some o)(ha:∀b o,(b,o)∈s.rw→s.ro b=none):s.freeze.ro b=some o:=by
 simp only[St.freeze]
 split
 ·rename_i x hx
  obtain⟨h1,h2⟩:=og hx
  subst h2
  rw[ha x.1 x.2 h1] at h;cases h
 exact h
theorem St.sP{s:St}{b:Nat}(h:(b,o)∈s.rw)(hn:(s.rw.map (·.1)).Nodup):s.freeze.ro b=some o:=by
 simp only[St.freeze,vW hn h]
section
variable {P:Program} {ρ:aV} {m:Mem} {F:Nat×Obj→Prop} {R:Nat→Option Obj} {s:St}
theorem Closed.jC(hT:Closed P main T)(hs:g.status= .running)(h:(∃w,aR s w)→T g s):T g s:=by
 by_cases ha:∃w,aR s w
 ·exact h ha
 exact hT.step _ _ hs fun w hw=>absurd ⟨w,hw⟩ ha
end
section
variable {P:Program} {main:Bool} {T:Goroutine→St→Prop} {b:Frame} {k:List Item} {cs:List Frame} {a:Act} {s:St} {n LF:Nat} {D:List Deferred} {call:bZ} {ops:Array Oper}
 {ρ:aV} {ce e:Env} {m:Mem} {F:Nat×Obj→Prop} {R:Nat→Option Obj}
theorem PX(hT:Closed P main T){rest:List Nat}{o:Oper}(ho:ops[i]?=some o) (hg:o.guard=none) (hk:b.kind≠ .early) (hb:b.roundOf=none) {f:FuncId} (ax:o.op= .call ⟨.value (.func f),xs,ats⟩) (hf:FF P f)
 (h:T (G (Frame.enter P f (xs.map a.eval) .normal) (aK b a (.inRegion ops (i::rest)::k)::cs)) s):T (G (aK b a (.inRegion ops (i::rest)::k)) cs) s:=by
 have jA:(b.kind==CallKind.early)=false:=by simpa using hk
 have hw:Region.wanted o (yielded ops a.tmps)=true:=dt o _ hg
 have vz:bP P (execOp a.eval o) s (fun nx s'=>nx= .enter f (xs.map a.eval)∧s'=s) (fun _ _=>False):=by
  have e1:a.eval (.func f)= .func (.func f) #[] #[]:=rfl
  simp only[execOp,ax,resolve,e1,Deferred.ofValue,aa,ae,invoke]
  have:(#[]++xs.map a.eval:Array Value)++ #[]=xs.map a.eval:=by simp
  rw[this]
  exact jO hf ⟨rfl,rfl⟩
 have gp:∀w,stepG P main (G (aK b a (.inRegion ops (i::rest)::k)) cs) w=stepG.apply P true (aK b a (.inRegion ops (i::rest)::k)) cs none (execOp a.eval o) w:=by
  intro w
  have he:=ky b a (.inRegion ops (i::rest)::k)
  simp only[aK] at he
  simp only[G,stepG,stepG.exec,aK,ho,Option.map_some,Option.getD_some,hw,if_true,stepG.oper,Frame.oper?,he]
  rw[hb]
 refine hT.step _ _ rfl fun w oX=>?_
 obtain⟨r,es,hr,hl⟩:=gz _ _ _ _ w #[] vz oX
 rw[Array.empty_append] at hr
 have my:=gp w
 simp only[stepG.apply,if_true,hr] at my
 simp only[aK,jA,Bool.false_eq_true,if_false] at my
 cases r with
 |ok nx w'=>
  obtain⟨s',ht,rfl,rfl⟩:=hl
  simp only[GStep.after,Array.append_empty] at my
  exact⟨_,_,_,_,my,rfl,ht.sub (ij P b.fn es),h⟩
 |halt hh w'=>
  obtain⟨s',ht,hu⟩:=hl
  exact hu.elim
def cM(P:Program):Frame:={(default:Frame) with fn:=P.funcs.size,defers:=[],mode:= .panicking [goexitEntry]}
theorem PH(P:Program):QuitsD P 1 0 (G (cM P) []):=by
 have hc:(cM P).catches P=false:=by
  simp[Frame.catches,cM]
  rfl
 refine .ctl (g':={(G (cM P) []) with status:= .finished}) rfl (fun w=>?_) ⟨rfl,rfl⟩
 have bS:stepG P false (G (cM P) []) w=unwind P false (cM P) [] none w:=rfl
 rw[bS]
 unfold unwind
 have h1:(cM P).defers=[]:=rfl
 have h2:(cM P).mode= .panicking [goexitEntry]:=rfl
 simp only[h1,h2,hc,Bool.false_eq_true,if_false]
 simp[goexitEntry,G]
theorem nM{fn:Func}(hm:fr.mode= .returning)(hd:fr.defers=[])(hk:fr.kind= .deferred)(hf:P.funcs[fr.fn]?=some fn) (hr:fn.results= #[]):QuitsD P 2 0 (G fr [cM P]):=by
 refine .ctl rfl (fun w=>?_) (PH P)
 have h1:∀tm,results fn tm=Sem.pure (.tuple #[]):=by intro tm;simp[results,hr];rfl
 rcases fr with ⟨fn',tmps,todo,defers,mode,kind,ro⟩
 simp only at hm hd hk hf
 subst hm hd hk
 simp only[G,stepG,unwind,hf,h1,Sem.runT,seen_none,GStep.after,doReturn,cM,goexitEntry,Array.append_empty]
end
structure Sb where
 f:FuncId
 n:Nat
 cl:List Code
 o7:Array Oper
 o:Oper
 sc:Operand
 sv:Operand
 done:FuncId
def goE(P:Program)(ty:TypeId):Nat→Frame→List Frame→Option (Frame×List Frame)
 |0,fr,gY=>some (fr,gY)
 |n+1,fr,gY=>match P0 P ty iY fr gY with
  |some (.go nA fR,[],[],[])=>goE P ty n nA fR
  |_=>none
theorem U8{T:Goroutine→Prop}(hs:∀g g',g.status= .running→g'.status= .running→(∀w,stepG P main g w= .go g' w #[])→T g'→T g):∀ {n:Nat} {fr nA:Frame} {gY fR:List Frame},goE P ty n fr gY=some (nA,fR)→T (G nA (fR++cs))→T (G fr (gY++cs))
 |0,fr,nA,gY,fR,h,hT=>by simp only[goE,Option.some.injEq,Prod.mk.injEq] at h;obtain⟨rfl,rfl⟩:=h;exact hT
 |n+1,fr,nA,gY,fR,h,hT=>by
  simp only[goE] at h
  split at h<;>try (cases h;done)
  rename_i f1 s1 h0
  refine hs _ _ rfl rfl (fun w=>?_) (U8 hs h hT)
  have:=qM (W:=0) (w:=w) h0 (by simp) (.inl ⟨rfl,rfl⟩) cs main
  simp only[OV.is] at this
  rw[this];rfl
theorem HW{f:FuncId}(hf:FF P f)(ca:Array Value)(w:World):stepG P main (born P {target:= .fn (.func f) ca,args:= #[]}) w= .go (G (Frame.enter P f (#[]++ca) .deferred) [cM P]) w #[]:=by
 obtain⟨fn,h1,h2,h3⟩:=hf.ff
 have bU:(callFunc f (#[]++ca)).runT P w #[]=(.ok (.enter f (#[]++ca)) w,#[]):=by
  show (Sem.program _).runT P w #[]=_
  simp only[Sem.runT,Sem.bind,h1,h2,h3,Bool.false_eq_true,if_false]
  rfl
 simp only[born,stepG,unwind,callDeferred,invoke,bU,GStep.after,seen_none,Bool.false_and,Bool.false_eq_true,if_false,Array.append_empty,G,cM]
structure Ly where
 f:FuncId
 n:Nat
 b:Frame
 q0:Array Oper
 o0:Oper
 rest:Code
 q1:Array Oper
 oc:Oper
 cx:Operand
 wait:FuncId
structure Ly.OK(P:Program)(ty:TypeId)(x:Ly):Prop where
 ff:Bj P x.f=true
 fn:∃fn,P.funcs[x.f]?=some fn∧fn.results= #[]∧fn.norace=false
 bf:x.b.fn=x.f∧x.b.kind= .deferred∧x.b.roundOf=none
 enter:∀p1 p2:Value,goE P ty 3 (Frame.enter P x.f #[p1,p2] .deferred) []=some (Frame.enter P x.wait #[p1] .normal,[aK x.b (A x.n (fG 0 [p1,p2]) []) [.inRegion x.q0 [0],.code x.rest]])
 op0:x.q0[0]?=some x.o0
 rest:∃id,gu [x.rest]=[.region id x.q1 false]
 size:x.q1.size=2
 op:x.q1[1]?=some x.oc∧x.oc.guard=none∧∃ats,x.oc.op= .call {callee:= .builtin .close,args:= #[x.cx],argTypes:=ats}
theorem fX(h:gu l=[]):l=[]:=by
 cases l with
 |nil=>rfl
 |cons y l=>
  exfalso
  have:∀c:Code,iJ c≠[]:=by
   intro c
   induction c with
   |seq p q ihp ihq=>simp[iJ,ihp]
   |_=>simp[iJ]
  simp only[gu,List.flatMap_cons,List.append_eq_nil_iff] at h
  exact this y h.1
theorem Cq{b:Frame}(h:b.roundOf=none)(a:Act)(todo:List Item):aK b a todo=b.at a todo:=by simp[aK,Frame.at,h]
def TV(P:Program):Sem Next→Nat→Option (Obj×Value)
 | .new o k,b=>match bw P (k b) with
  |some (.value v)=>some (o,v)
  |_=>none
 | .program k,b=>TV P (k P) b
 |_,_=>none
theorem Gn{f:Nat→Value}{s:St}{K:Next→St→Prop}{E:Halt→St→Prop}(hK:∀b,¬s.knows b→K (.value (f b)) ⟨s.ro,(b,o)::s.rw⟩):∀(x:Sem Next),(∀b,TV P x b=some (o,f b))→bP P x s K E:=by
 intro x
 induction x with
 |new o' k ih=>
  intro h b hb
  have h':=h b
  simp only[TV] at h'
  split at h'<;>try (cases h';done)
  rename_i v hv
  simp only[Option.some.injEq,Prod.mk.injEq] at h'
  obtain⟨rfl,rfl⟩:=h'
  exact nX hv (hK b hb)
 |program k ih=>intro h;exact ih P h
 |_=>intro h;have:=h 0;simp[TV] at this
structure q8 where
 f:FuncId
 n:Nat
 fn:Func
 o0:Array Oper
 o1:Array Oper
 o2:Array Oper
 o3:Array Oper
 o4:Array Oper
 o5:Array Oper
 o6:Array Oper
 o7:Array Oper
 o8:Array Oper
 o9:Array Oper
 o10:Array Oper
 o11:Array Oper
 BM:Array Oper
 o13:Array Oper
 o14:Array Oper
 a1:Oper
 a2:Oper
 a6:Oper
 a7:Oper
 a9:Oper
 Sa:Oper
 lb:Code
 Dm:Code
 rb:Code
 ui:Code
 c4:Operand
 c12:Operand
 b0:Nat
 b1:Nat
 b2:Nat
 b3:Nat
 fin:List Code
 add:FuncId
 aoe:Operand
 sp:Operand
 sk:Operand
 rc:Operand
 wk:Sb
 cl:Ly
 ty:TypeId
 mx:Nat
def cN(l:List Code)(i:Nat):Array Oper:=match l[i]? with
 |some (.region _ ops _)=>ops
 |_=> #[]
def eB(o:Array Oper)(i:Nat):Oper:=(o[i]?).getD default
def aeM(l:List Code)(i:Nat):Nat×Code:=match l[i]? with
 |some (.block id (.loop c))=>(id,c)
 |_=>(0,.skip)
def Yx(l:List Code)(i:Nat):Nat×Code:=match l[i]? with
 |some (.block id c)=>(id,c)
 |_=>(0,.skip)
def aiI(l:List Code)(i:Nat):Operand:=match l[i]? with
 |some (.cond c _ _)=>c
 |_=> .func 0
def HU(o:Oper):FuncId:=match o.op with
 | .call ⟨.value (.func f),_,_⟩=>f
 | .defer ⟨.value (.func f),_,_⟩=>f
 |_=>0
def aqO(o:Oper)(i:Nat):Operand:=match o.op with
 | .call ⟨_,xs,_⟩=>(xs[i]?).getD (.func 0)
 |_=> .func 0
def aEM(o:Oper):Operand:=match o.op with
 | .go ⟨.value x,_,_⟩=>x
 |_=> .func 0
def aqq(o:Oper):FuncId:=match o.op with
 | .makeFunc (.func f) _ _=>f
 |_=>0
def chanOf(o:Oper):Operand:=match o.op with
 | .recv _ c _=>c
 | .send c _=>c
 |_=> .func 0
def arT(o:Oper):Operand:=match o.op with
 | .send _ x=>x
 |_=> .func 0
def typeOf(o:Oper):TypeId:=match o.op with
 | .alloc t=>t
 |_=>0
def codeOf(P:Program)(f:FuncId):List Code:=match P.funcs[f]? with
 |some fn=>match fn.body with
  |some c=>iJ c
  |none=>[]
 |none=>[]
def tmpsOf(P:Program)(f:FuncId):Nat:=match P.funcs[f]? with
 |some fn=>fn.ntmps
 |none=>0
def ar7(P:Program)(f:FuncId):Code:=match P.funcs[f]? with
 |some fn=>match fn.body with
  |some (.seq _ c)=>c
  |_=> .skip
 |none=> .skip
def awE(P:Program)(f:FuncId)(mx:Nat):q8:=
 let l:=codeOf P f
 let lb:=aeM l 4
 let ll:=iJ lb.2
 let bb:=Yx ll 2
 let bl:=iJ bb.2
 let rb:=aeM l 8
 let rl:=iJ rb.2
 let rbb:=Yx rl 2
 let rbl:=iJ rbb.2
 let wf:=aqq (eB (cN bl 2) 0)
 let wl:=codeOf P wf
 let cf:=aqq (eB (cN l 5) 0)
 let cl:=codeOf P cf
 {f,n:=tmpsOf P f,fn:=(P.funcs[f]?).getD default,o0:=cN l 0,o1:=cN l 1,o2:=cN l 2,o3:=cN l 3,o4:=cN ll 0,o5:=cN bl 0,o6:=cN bl 1,o7:=cN bl 2,o8:=cN ll 3,
  o9:=cN l 5,o10:=cN l 6,o11:=cN l 7,BM:=cN rl 0,o13:=cN rbl 0,o14:=cN rbl 1,
  a1:=eB (cN l 1) 0,a2:=eB (cN l 2) 0,a6:=eB (cN bl 1) 0,a7:=eB (cN bl 2) 1,a9:=eB (cN l 5) 1,Sa:=eB (cN rl 0) 0,
  lb:=lb.2,Dm:=bb.2,rb:=rb.2,ui:=rbb.2,c4:=aiI ll 1,c12:=aiI rl 1,b0:=lb.1,b1:=bb.1,b2:=rb.1,b3:=rbb.1,fin:=(l.drop 9).dropLast,
  add:=HU (eB (cN bl 1) 0),aoe:=aqO (eB (cN bl 1) 0) 0,sp:=aEM (eB (cN bl 2) 1),sk:=aEM (eB (cN l 5) 1),rc:=chanOf (eB (cN rl 0) 0),
  wk:={f:=wf,n:=tmpsOf P wf,cl:=wl.dropLast,o7:=cN wl (wl.length-1),o:=eB (cN wl (wl.length-1)) 2,sc:=chanOf (eB (cN wl (wl.length-1)) 2),sv:=arT (eB (cN wl (wl.length-1)) 2),done:=HU (eB (cN wl 0) 0)},
  cl:={f:=cf,n:=tmpsOf P cf,b:={(default:Frame) with fn:=cf,kind:= .deferred,roundOf:=none},q0:=cN cl 0,o0:=eB (cN cl 0) 0,rest:=ar7 P cf,q1:=cN cl 1,oc:=eB (cN cl 1) 1,cx:=aqO (eB (cN cl 1) 1) 0,wait:=HU (eB (cN cl 0) 0)},
  ty:=typeOf (eB (cN l 2) 0),mx}
theorem wN{k:Nat}:∀b∈List.replicate k W,b=W:=fun b hb=>(List.mem_replicate.1 hb).2
section
variable {gD:Os} {cu:Array (Nat×ByteArray)} {P:Program} {T:Goroutine→St→Prop} {b:Frame} {k:List Item} {cs:List Frame} {a:Act} {s:St} {n LF:Nat} {call:bZ} {ops:Array Oper}
 {ρ:aV} {ce e:Env} {m:Mem} {x:q8} {Wg Ch:Nat} {L:Nat→Option Obj} {Q:Machine→Outcome→World→Trace→Prop}
theorem E6{rest:List Nat}{o:Oper}(ho:ops[i]?=some o) (hg:o.guard=none) (hk:b.kind≠ .early) (hb:b.roundOf=none) {y:Operand} (ax:o.op= .go ⟨.value y,#[],ats⟩) {f:FuncId} (hy:a.eval y= .func (.func f) #[] ca) (w:World):
 stepG P main (G (aK b a (.inRegion ops (i::rest)::k)) cs) w= .spawn (G (aK b (a.put o.dst undef) (.inRegion ops rest::k)) cs) (born P {target:= .fn (.func f) ca,args:= #[]}) w #[]:=by
 have hw:Region.wanted o (yielded ops a.tmps)=true:=dt o _ hg
 have hx:execOp a.eval o=Sem.pure (.spawn {target:= .fn (.func f) ca,args:= #[]}):=by
  simp only[execOp,ax,resolve,hy,Deferred.ofValue]
  show Sem.pure (Next.spawn {target:= .fn (.func f) ca,args:= #[]++Array.map a.eval #[]})=_
  simp
 rw[Cq hb,Cq hb]
 have:=stepG_spawn (P:=P) (main:=main) (b:=b) (a:=a) (k:=k) (cs:=cs) (w:=w) (w':=w) (d:={target:= .fn (.func f) ca,args:= #[]}) ho hw hk (rest:=rest) (by rw[hx];rfl) rfl
 rw[this,listed_none (by rw[hx];rfl)]
end
theorem tt:∀ {x:Sem α} {a:α},bw P x=some a→∀(w:World) (es:Array Event),x.runT P w es=(.ok a w,es)
 | .pure _,_,h,w,es=>by simp only[bw,Option.some.injEq] at h;subst h;rfl
 | .program k,_,h,w,es=>tt (x:=k _) h w es
def C0(P:Program):Class:=fun main T=>main=true∧∃gD cu Post,T=T0 P gD cu Post
theorem xe:∀main T,C0 P main T→Closed P main T:=by
 rintro _ _ ⟨rfl,gD,cu,Post,rfl⟩
 exact sj P gD cu Post
abbrev CP(P:Program):Class:=fun main T=>Closed P main T
theorem eJ:∀main T,CP P main T→Closed P main T:=fun _ _ h=>h
abbrev Cells:=List (Nat×Obj)
variable {Φ:Value→Cells→Prop} {B X rw' rw:Cells}
def Sub(ro aI:Nat→Option Obj):Prop:=∀b o,ro b=some o→aI b=some o
theorem Sub.refl(ro:Nat→Option Obj):Sub ro ro:=fun _ _ h=>h
theorem Sub.trans{a b c:Nat→Option Obj}(h:Sub a b)(k:Sub b c):Sub a c:=fun x o hx=>k x o (h x o hx)
structure abD(fr B:Cells)(ro:Nat→Option Obj)(s1 s:St):Prop where
 rw:s.rw.Perm (s1.rw++fr)
 aH:∀b o,s1.ro b=some o→s.ro b=some o∨(b,o)∈B
 keep:Sub ro s.ro
theorem xc(hT:Closed P main T){s:St}(hg:g.status= .running)(h:(∃w,aR s w)→T g s):T g s:=by
 by_cases hw:∃w,aR s w
 ·exact h hw
 exact hT.step g s hg fun w oX=>absurd ⟨w,oX⟩ hw
theorem AI(hT:Closed P main T){fr:Cells}(hB:∀x∈B,x∈fr)(ro:Nat→Option Obj):
 Closed P main (fun g s1=>g.status= .running→∀s,abD fr B ro s1 s→T g s) where
 step:=fun g s1 hg h _ s hc=>by
  refine hT.step g s hg fun w hw=>?_
  have OD:∀x,x∈s.rw↔x∈s1.rw∨x∈fr:=fun x=>by rw[hc.rw.mem_iff,List.mem_append]
  have lQ:=(hc.rw.map (·.1)).nodup_iff.1 hw.nodup
  rw[List.map_append,List.nodup_append] at lQ
  obtain⟨hn1,hn2,hn3⟩:=lQ
  have aDK:∀b o o',(b,o)∈s1.rw→(b,o')∈fr→False:=fun b o o' h1 h2=>hn3 b (List.mem_map.2 ⟨_,h1,rfl⟩) b (List.mem_map.2 ⟨_,h2,rfl⟩) rfl
  have aPk:aR s1 w:=by
   refine⟨fun b o hb=>?_,fun b o hb=>hw.rw b o ((OD _).2 (.inl hb)),hn1,fun b o hb=>?_⟩
   ·rcases hc.aH b o hb with h1|h1
    ·exact hw.ro b o h1
    exact hw.rw b o ((OD _).2 (.inr (hB _ h1)))
   cases hr:s1.ro b with
   |none=>rfl
   |some o'=>
    rcases hc.aH b o' hr with h1|h1
    ·rw[hw.apart b o ((OD _).2 (.inl hb))] at h1;cases h1
    exact(aDK b o o' hb (hB _ h1)).elim
  obtain⟨g',w',es,ym,bS,bU,ht,hT'⟩:=h w aPk
  have agz:∀b o,(b,o)∈fr→b <w.heap.size:=fun b o hb=>hw.lt (.inr ((OD _).2 (.inr hb)))
  have avg:∀b o,(b,o)∈fr→¬s1.iN b:=fun b o hb ⟨o',EW⟩=>aDK b o' o EW hb
  have auj:∀b,s.ro b≠none→¬s1.iN b:=fun b hb ⟨o',EW⟩=>hb (hw.apart b o' ((OD _).2 (.inl EW)))
  have afM:∀b,s.ro b≠none→b <w.heap.size:=fun b hb=>by
   cases hr:s.ro b with
   |none=>exact absurd hr hb
   |some o=>exact hw.lt (.inl hr)
  have aDx:∀b o,(b,o)∈fr→w'.heap[b]?=some o:=fun b o hb=>by
   rw[ht.frame b (agz b o hb) (avg b o hb)]
   exact hw.rw b o ((OD _).2 (.inr hb))
  classical
  let aI:Nat→Option Obj:=fun b=>if ∃o,(b,o)∈fr then none else match ym.ro b with
   |some o=>some o
   |none=>s.ro b
  have auk:∀b o,aI b=some o→¬(∃o,(b,o)∈fr)∧(ym.ro b=some o∨(ym.ro b=none∧s.ro b=some o)):=fun b o hb=>by
   simp only[aI] at hb
   split at hb
   ·cases hb
   rename_i hn
   refine⟨hn,?_⟩
   cases h1:ym.ro b with
   |none=>rw[h1] at hb;exact .inr ⟨rfl,hb⟩
   |some o2=>rw[h1] at hb;exact .inl hb
  have aPj:aR ⟨aI,ym.rw++fr⟩ w':=by
   refine⟨fun b o hb=>?_,fun b o hb=>?_,?_,fun b o hb=>?_⟩
   ·obtain⟨_,h1| ⟨_,h2⟩⟩:=auk b o hb
    ·exact ht.jC.ro b o h1
    have dK:s.ro b≠none:=by rw[h2];simp
    rw[ht.frame b (afM b dK) (auj b dK)]
    exact hw.ro b o h2
   ·rcases List.mem_append.1 hb with hb|hb
    ·exact ht.jC.rw b o hb
    exact aDx b o hb
   ·show ((ym.rw++fr).map (·.1)).Nodup
    rw[List.map_append,List.nodup_append]
    refine⟨ht.jC.nodup,hn2,fun x hx y hy e=>?_⟩
    obtain⟨⟨b,o⟩,h1,rfl⟩:=List.mem_map.1 hx
    obtain⟨⟨b2,o2⟩,h2,rfl⟩:=List.mem_map.1 hy
    dsimp only at e;subst e
    rcases ht.own b ⟨o,h1⟩ with h3|h3
    ·exact absurd (agz b o2 h2) (by omega)
    exact avg b o2 h2 h3
   show aI b=none
   rcases List.mem_append.1 hb with hb|hb
   ·cases hr:aI b with
    |none=>rfl
    |some o'=>
     obtain⟨hn,h1| ⟨_,h2⟩⟩:=auk b o' hr
     ·rw[ht.jC.apart b o hb] at h1;cases h1
     have dK:s.ro b≠none:=by rw[h2];simp
     rcases ht.own b ⟨o,hb⟩ with h3|h3
     ·exact absurd (afM b dK) (by omega)
     exact(auj b dK h3).elim
   simp only[aI]
   rw[if_pos ⟨o,hb⟩]
  have aDP:abD fr B ro ym ⟨aI,ym.rw++fr⟩:=by
   refine⟨.refl _,fun b o hb=>?_,fun b o hb=>?_⟩
   ·by_cases hf:∃o,(b,o)∈fr
    ·obtain⟨o2,Im⟩:=hf
     have e1:=ht.jC.ro b o hb
     rw[aDx b o2 Im] at e1
     cases e1
     rcases ht.Mb b (by rw[hb];simp) with h1|h1|h1
     ·exact absurd (agz b _ Im) (by omega)
     ·cases hr:s1.ro b with
      |none=>exact absurd hr h1
      |some o3=>
       rcases hc.aH b o3 hr with h3|h3
       ·rw[hw.apart b _ ((OD _).2 (.inr Im))] at h3;cases h3
       have e3:=hw.rw b o3 ((OD _).2 (.inr (hB _ h3)))
       rw[hw.rw b _ ((OD _).2 (.inr Im))] at e3
       cases e3
       exact .inr h3
     exact(avg b _ Im h1).elim
    left
    show aI b=some o
    simp only[aI]
    rw[if_neg hf,hb]
   have h1:=hc.keep b o hb
   have dK:s.ro b≠none:=by rw[h1];simp
   have hf:¬ ∃o,(b,o)∈fr:=fun⟨o2,Im⟩=>dK (hw.apart b o2 ((OD _).2 (.inr Im)))
   show aI b=some o
   simp only[aI]
   rw[if_neg hf]
   cases h2:ym.ro b with
   |none=>exact h1
   |some o2=>
    have e1:=ht.jC.ro b o2 h2
    rw[ht.frame b (afM b dK) (auj b dK),hw.ro b o h1] at e1
    exact e1.symm
  refine⟨g',w',es,⟨aI,ym.rw++fr⟩,bS,bU,⟨aPj,ht.size,fun b hb hn=>?_,fun b hb=>?_,fun b hb=>?_,ht.os,ht.output,ht.tape,fun e he=>?_,ht.low⟩,hT' bU _ aDP⟩
  ·exact ht.frame b hb fun⟨o,ho⟩=>hn ⟨o,(OD _).2 (.inl ho)⟩
  ·obtain⟨o,ho⟩:=hb
   rcases List.mem_append.1 ho with ho|ho
   ·rcases ht.own b ⟨o,ho⟩ with h3| ⟨o3,h3⟩
    ·exact .inl h3
    exact .inr ⟨o3,(OD _).2 (.inl h3)⟩
   exact .inr ⟨o,(OD _).2 (.inr ho)⟩
  ·have hb:aI b≠none:=hb
   cases hr:aI b with
   |none=>exact absurd hr hb
   |some o=>
    obtain⟨hn,h1| ⟨_,h2⟩⟩:=auk b o hr
    ·rcases ht.Mb b (by rw[h1];simp) with h3|h3| ⟨o3,h3⟩
     ·exact .inl h3
     ·cases h4:s1.ro b with
      |none=>exact absurd h4 h3
      |some o4=>
       rcases hc.aH b o4 h4 with h5|h5
       ·exact .inr (.inl (by rw[h5];simp))
       exact absurd ⟨_,hB _ h5⟩ hn
     exact .inr (.inr ⟨o3,(OD _).2 (.inl h3)⟩)
    exact .inr (.inl (by rw[h2];simp))
  have SD:=ht.uW e he
  have apU:∀b,(∃o,(b,o)∈s1.rw)→s.iN b:=fun b ⟨o,ho⟩=>⟨o,(OD _).2 (.inl ho)⟩
  have aCv:∀b,s1.ro b≠none→s.ro b≠none∨s.iN b:=fun b hb=>by
   cases h4:s1.ro b with
   |none=>exact absurd h4 hb
   |some o4=>
    rcases hc.aH b o4 h4 with h5|h5
    ·exact .inl (by rw[h5];simp)
    exact .inr ⟨o4,(OD _).2 (.inr (hB _ h5))⟩
  unfold Ih at*
  split at SD
  ·refine⟨SD.1,?_⟩
   rcases SD.2 with h1|h1| ⟨h1,h2⟩
   ·exact .inl h1
   ·exact .inr (.inl (apU _ h1))
   rcases aCv _ h2 with h3|h3
   ·exact .inr (.inr ⟨h1,h3⟩)
   exact .inr (.inl h3)
  ·refine⟨SD.1,?_⟩
   rcases SD.2 with h1|h1| ⟨h1,h2⟩
   ·exact .inl h1
   ·exact .inr (.inl (apU _ h1))
   rcases aCv _ h2 with h3|h3
   ·exact .inr (.inr ⟨h1,h3⟩)
   exact .inr (.inl h3)
  ·exact SD
  exact SD
 mono:=fun g s1 ym hl h bU s hc=>by
  refine xc hT bU fun⟨w,hw⟩=>?_
  obtain⟨R,hR,Ax⟩:=hl
  have OD:∀x,x∈s.rw↔x∈ym.rw∨x∈fr:=fun x=>by rw[hc.rw.mem_iff,List.mem_append]
  have avX:∀x,x∈R→x∈s.rw:=fun x hx=>(OD x).2 (.inl (hR.mem_iff.2 (List.mem_append_right _ hx)))
  classical
  let oU:Nat→Option Obj:=fun b=>if hx:∃o,(b,o)∈R then some (Classical.choose hx) else s.ro b
  have GR:∀b o,(b,o)∈R→oU b=some o:=fun b o hb=>by
   have hx:∃o,(b,o)∈R:=⟨o,hb⟩
   simp only[oU]
   rw[dif_pos hx]
   have h1:=hw.rw b _ (avX _ (Classical.choose_spec hx))
   rw[hw.rw b o (avX _ hb)] at h1
   cases h1;rfl
  have gP:∀b o,s.ro b=some o→oU b=some o:=fun b o hb=>by
   simp only[oU]
   rw[dif_neg]
   ·exact hb
   rintro⟨o2,Im⟩
   rw[hw.apart b o2 (avX _ Im)] at hb;cases hb
  refine hT.mono g ⟨oU,s1.rw++fr⟩ s ⟨R,?_,fun b o hb=>?_⟩ (h bU _ ⟨.refl _,fun b o hb=>?_,fun b o hb=>gP b o (hc.keep b o hb)⟩)
  ·refine hc.rw.trans ((List.Perm.append_right fr hR).trans ?_)
   rw[List.append_assoc,List.append_assoc]
   exact List.Perm.append_left _ List.perm_append_comm
  ·simp only[oU] at hb
   split at hb
   ·rename_i hx
    simp only[Option.some.injEq] at hb
    exact .inr (hb▸Classical.choose_spec hx)
   exact .inl hb
  rcases Ax b o hb with h1|h1
  ·exact(hc.aH b o h1).imp (gP b o) id
  exact .inl (GR b o h1)
theorem Fn.frame{f:FuncId}{s1 s:St}{R:Ending→St→Prop}{fr:Cells}(hf:Fn (CP P) P f args s1 R)(hB:∀x∈B,x∈fr)(hc:abD fr B ro s1 s):
 Fn (CP P) P f args s (fun en s'=>∃ym,R en ym∧abD fr B ro ym s'):=
 fun main T hT c cs k1 k2=>hf main _ (AI hT hB ro) c cs (fun v ym hv _ s' sO=>k1 v s' ⟨ym,hv,sO⟩) (fun ch ym hv _ s' sO=>k2 ch s' ⟨ym,hv,sO⟩) rfl s hc
def dR(P:Program)(f:FuncId)(args:List Value)(ro:Nat→Option Obj)(own:Cells)(Φ:Value→Cells→Prop):Prop:=
 Fn (CP P) P f ⟨args⟩ ⟨ro,own⟩ (fun en s'=>∃v X,en= .returned v∧s'=⟨ro,X⟩∧Φ v X)
abbrev dD(P:Program)(f:FuncId)(args:List Value)(ro:Nat→Option Obj)(V:Value):Prop:=dR P f args ro [] (fun v X=>v=V∧X=[])
theorem dR.mono{f:FuncId}{args:List Value}{own:Cells}{Φ':Value→Cells→Prop}(h:dR P f args ro own Φ)(hk:∀v X,Φ v X→Φ' v X):dR P f args ro own Φ':=
 Fn.mono h fun _ _ ⟨v,X,h1,h2,h3⟩=>⟨v,X,h1,h2,hk v X h3⟩
theorem NJ:Ext ⟨ro,[]⟩ ⟨ro,rw⟩:=fun _ _ h=>h.elim .inl (fun h=>by cases h)
theorem tT{aI:Nat→Option Obj}(h:Sub ro aI):Ext ⟨ro,[]⟩ ⟨aI,[]⟩:=fun b o hb=>hb.elim (fun hb=> .inl (h b o hb)) (fun hb=>by cases hb)
def bI(ro:Nat→Option Obj)(v:Value)(sz:Nat)(enc:α→List Value)(ps:List α):Prop:=
 ∃a b o cap,v= .slice a ps.length cap∧ps.length≤cap∧(∀k,k <ps.length→a=some ⟨b,o,none⟩)∧∀i p,ps[i]?=some p→cv ⟨ro,[]⟩ b (o+i*sz) sz (enc p)
theorem bI.nil(ro:Nat→Option Obj)(sz:Nat)(enc:α→List Value)(a:Option Addr)(cap:Nat):bI ro (.slice a 0 cap) sz enc []:=⟨a,0,0,cap,rfl,Nat.zero_le _,fun k h=>absurd h (Nat.not_lt_zero k),fun i p hp=>by simp at hp⟩
theorem bI.up{aI:Nat→Option Obj}{v:Value}{enc:α→List Value}{ps:List α}(h:bI ro v sz enc ps)(hs:Sub ro aI):bI aI v sz enc ps:=by
 obtain⟨a,b,o,cap,h1,h4,h2,h3⟩:=h
 exact⟨a,b,o,cap,h1,h4,h2,fun i p hp=>(h3 i p hp).ext (tT hs)⟩
section rules
variable {P:Program} {C:Class} {fn:FuncId} {az:Option Nat} {Q:Post} {s:St} {n:Nat} {env:Env} {D:List Deferred}
variable {ops:Array Oper} {i:Nat} {rest:List Nat} {dst:Option Tmp} {ty:TypeId} {pos:String} {cX:Array Edge} {g:Option (Nat×Bool)}
variable {T:TypeId} {d:TypeDesc} {sz bB:Nat} {z:List Value} {ag:Bool} {ro:Nat→Option Obj} {rw:Cells}
theorem ab.more{a:Act}(hC:∀main T,C main T→Closed P main T)(hl:s.le s')(h:ab C fn az ops todo Q a s):ab C fn az ops todo Q a s':=
 fun main T hT b k cs h1 h2 h3 h4=>(hC _ _ hT).mono _ _ _ hl (h main T hT b k cs h1 h2 h3 h4)
theorem alz{a:Act}(hC:∀main T,C main T→Closed P main T)(h:(∃w,aR s w)→ab C fn az ops todo Q a s):ab C fn az ops todo Q a s:=
 fun main T hT b k cs h1 h2 h3 h4=>xc (hC _ _ hT) rfl fun hw=>h hw main T hT b k cs h1 h2 h3 h4
theorem aq4{a:Act}{c:Code}(hC:∀main T,C main T→Closed P main T)(h:(∃w,aR s w)→Wp C fn az c Q a s):Wp C fn az c Q a s:=
 fun main T hT b k cs h1 h2 h3 h4=>xc (hC _ _ hT) rfl fun hw=>h hw main T hT b k cs h1 h2 h3 h4
theorem ah3{f:FuncId}{R:Ending→St→Prop}(hC:∀main T,C main T→Closed P main T)(h:(∃w,aR s w)→Fn C P f args s R):Fn C P f args s R:=
 fun main T hT c cs h1 h2=>xc (hC _ _ hT) rfl fun hw=>h hw main T hT c cs h1 h2
theorem Yb(hp:rw.Perm (X++s.rw))(hw:∃w,aR ⟨s.ro,rw⟩ w):∃aI,Sub s.ro aI∧(∀x∈X,aI x.1=some x.2)∧(⟨aI,s.rw⟩:St).le ⟨s.ro,rw⟩:=by
 classical
 obtain⟨w,hw⟩:=hw
 have zf:∀x,x∈X→x∈rw:=fun x hx=>hp.mem_iff.2 (List.mem_append_left _ hx)
 refine⟨fun b=>if hx:∃o,(b,o)∈X then some (Classical.choose hx) else s.ro b,fun b o hb=>?_,fun x hx=>?_,X,hp.trans List.perm_append_comm,fun b o hb=>?_⟩
 ·simp only
  rw[dif_neg]
  ·exact hb
  rintro⟨o2,Im⟩
  have:=hw.apart b o2 (zf _ Im)
  rw[show s.ro b=none from this] at hb;cases hb
 ·obtain⟨b,o⟩:=x
  have lG:∃o,(b,o)∈X:=⟨o,hx⟩
  simp only
  rw[dif_pos lG]
  have h1:=hw.rw b _ (zf _ (Classical.choose_spec lG))
  rw[hw.rw b o (zf _ hx)] at h1
  cases h1;rfl
 simp only at hb
 split at hb
 ·rename_i hx
  simp only[Option.some.injEq] at hb
  exact .inr (hb▸Classical.choose_spec hx)
 exact .inl hb
theorem YY{a:Act}{c:Code}(hC:∀main T,C main T→Closed P main T)(hp:rw'.Perm (X++rw))(h:∀aI,Sub ro aI→(∀x∈X,aI x.1=some x.2)→Wp C fn az c Q a ⟨aI,rw⟩):Wp C fn az c Q a ⟨ro,rw'⟩:=
 aq4 hC fun hw=>by
  obtain⟨aI,h1,h2,h3⟩:=Yb (s:=⟨ro,rw⟩) hp hw
  exact(h aI h1 h2).more hC h3
theorem TP{a:Act}(hC:∀main T,C main T→Closed P main T)(hp:rw'.Perm (X++rw))(h:∀aI,Sub ro aI→(∀x∈X,aI x.1=some x.2)→ab C fn az ops todo Q a ⟨aI,rw⟩):ab C fn az ops todo Q a ⟨ro,rw'⟩:=
 alz hC fun hw=>by
  obtain⟨aI,h1,h2,h3⟩:=Yb (s:=⟨ro,rw⟩) hp hw
  exact(h aI h1 h2).more hC h3
theorem dR.use{f:FuncId}{own fr:Cells}(hp:s.rw.Perm (own++fr))(hB:∀x∈B,x∈fr)(hf:∀aH,Sub s.ro aH→(∀x∈B,aH x.1=some x.2)→dR P f vs aH own Φ):
 Fn (CP P) P f ⟨vs⟩ s (fun en s'=>∃v X,en= .returned v∧Φ v X∧(⟨s.ro,X++fr⟩:St).le s'):=by
 refine ah3 eJ fun⟨w,hw⟩=>?_
 classical
 have zf:∀x,x∈B→x∈s.rw:=fun x hx=>hp.mem_iff.2 (List.mem_append_right _ (hB x hx))
 let aH:Nat→Option Obj:=fun b=>if hx:∃o,(b,o)∈B then some (Classical.choose hx) else s.ro b
 have h1:Sub s.ro aH:=fun b o hb=>by
  simp only[aH]
  rw[dif_neg]
  ·exact hb
  rintro⟨o2,Im⟩
  rw[hw.apart b o2 (zf _ Im)] at hb;cases hb
 have h2:∀x∈B,aH x.1=some x.2:=fun⟨b,o⟩ hx=>by
  have lG:∃o,(b,o)∈B:=⟨o,hx⟩
  simp only[aH]
  rw[dif_pos lG]
  have h3:=hw.rw b _ (zf _ (Classical.choose_spec lG))
  rw[hw.rw b o (zf _ hx)] at h3
  cases h3;rfl
 refine Fn.mono (Fn.frame (fr:=fr) (B:=B) (ro:=s.ro) (s:=s) (hf aH h1 h2) hB ⟨hp,fun b o hb=>?_,Sub.refl _⟩) fun en s' Dt=>?_
 ·simp only[aH] at hb
  split at hb
  ·rename_i hx
   simp only[Option.some.injEq] at hb
   exact .inr (hb▸Classical.choose_spec hx)
  exact .inl hb
 obtain⟨ym,⟨v,X,rfl,rfl,pQ⟩,hc⟩:=Dt
 exact⟨v,X,rfl,pQ,[],by simpa using hc.rw,fun b o hb=> .inl (hc.keep b o hb)⟩
theorem aeh(hC:∀main T,C main T→Closed P main T){f:FuncId}{own fr:Cells}(ho:ops[i]?=some ⟨dst,.call ⟨.value x,xs,at_⟩,ty,pos,cX,g⟩) (hw:aw ops n env g=true)
 (hv:bp n env x=some (.func (.func f) fi ca)) (ff:FF P f) (hx:uW n env xs=some vs) (rE:fi++⟨vs⟩++ca=⟨ws⟩) (hp:s.rw.Perm (own++fr)) (hB:∀x∈B,x∈fr) (hf:∀aH,Sub s.ro aH→(∀x∈B,aH x.1=some x.2)→dR P f ws aH own Φ)
 (h:∀v X,Φ v X→ab C fn az ops rest Q (A n (upd dst v env) D) ⟨s.ro,X++fr⟩):ab C fn az ops (i::rest) Q (A n env D) s:=
 tI hC ho hw hv ff hx rE ((dR.use hp hB hf).weaken hC) (fun v' s' hr=>by obtain⟨v,X,e,h1,h2⟩:=hr;cases e;exact(h _ X h1).more hC h2) (fun ch s' hr=>by obtain⟨_,_,e,_⟩:=hr;cases e) (fun s' hr=>by obtain⟨_,_,e,_⟩:=hr;cases e)
theorem dD.use{f:FuncId}{V:Value}{sz:St}(hez:Ext s sz)(hf:∀aH,(∀b o,s.has b o→aH b=some o)→dD P f vs aH V):Fn (CP P) P f ⟨vs⟩ sz (fun e s'=>e= .returned V∧sz.le s'):=by
 refine ah3 eJ fun⟨w,hw⟩=>?_
 refine Fn.mono (dR.use (s:=sz) (own:=[]) (fr:=sz.rw) (B:=sz.rw) (.refl _) (fun _ h=>h) (fun aH h1 h2=>hf aH fun b o hb=>?_)) fun en s' Dt=>?_
 ·rcases hez b o hb with h3|h3
  ·exact h1 b o h3
  exact h2 _ h3
 obtain⟨v,X,e,⟨h1,h2⟩,h3⟩:=Dt
 subst h1 h2
 exact⟨e,h3⟩
theorem P8(hC:∀main T,C main T→Closed P main T){f:FuncId}{V:Value}{s0:St}(ho:ops[i]?=some ⟨dst,.call ⟨.value x,xs,at_⟩,ty,pos,cX,g⟩) (hw:aw ops n env g=true)
 (hv:bp n env x=some (.func (.func f) fi ca)) (ff:FF P f) (hx:uW n env xs=some vs) (rE:fi++⟨vs⟩++ca=⟨ws⟩) (hez:Ext s0 s) (hf:∀aH,(∀b o,s0.has b o→aH b=some o)→dD P f ws aH V) (h:ab C fn az ops rest Q (A n (upd dst V env) D) s):ab C fn az ops (i::rest) Q (A n env D) s:=
 tI hC ho hw hv ff hx rE ((dD.use hez hf).weaken hC) (fun v' s' hr=>by obtain⟨e,h1⟩:=hr;cases e;exact h.more hC h1) (fun ch s' hr=>by cases hr.1) (fun s' hr=>by cases hr.1)
theorem FG{aH:Nat→Option Obj}(h:∀b o,(⟨ro,rw⟩:St).has b o→aH b=some o):Sub ro aH:=fun b o hb=>h b o (.inl hb)
theorem ay.kQ{v:Value}{T:TypeId}{enc:α→List Value}{ps:List α}{L:Cells}{aH:Nat→Option Obj}(h:ay v sz T enc ps L)(hL:∀x∈L,aH x.1=some x.2):bI aH v sz enc ps:=by
 obtain⟨a,b,o,cap,h1,h2,h3⟩:=h.sl (s:=⟨aH,[]⟩) fun x hx=> .inl (hL x hx)
 refine⟨a,b,o,cap,h1,?_,h2,h3⟩
 rcases h with ⟨_,g2,_⟩| ⟨b',l,aQ5,g1,_,_,g4,_⟩
 ·subst g2;exact Nat.zero_le _
 rw[g1] at h1;cases h1;exact g4
end rules
section rules
variable {P:Program} {C:Class} {fn:FuncId} {az:Option Nat} {Q:Post} {s:St} {n:Nat} {env:Env} {D:List Deferred}
variable {ops:Array Oper} {i:Nat} {rest:List Nat} {dst:Option Tmp} {ty:TypeId} {pos:String} {cX:Array Edge} {g:Option (Nat×Bool)}
variable {T:TypeId} {d:TypeDesc} {sz bB:Nat} {z:List Value} {ag:Bool}
theorem TS(hC:∀main T,C main T→Closed P main T)(ho:ops[i]?=some ⟨dst,.range T x,ty,pos,cX,g⟩) (hw:aw ops n env g=true) (tf:TF P T .string sz bB z ag) (hx:bp n env x=some (.string b))
 (h:∀r,¬s.knows r→ab C fn az ops rest Q (A n (upd dst (.pointer (some ⟨r,0,none⟩)) env) D) ⟨s.ro,(r,.stringIter b 0)::s.rw⟩):ab C fn az ops (i::rest) Q (A n env D) s:=by
 refine bR hC ho hw (by simp) ?_
 simp only[execOp,Instr.range,aa,a8 tf,aF hx,ae,nV]
 intro r hr
 have:=h r hr
 rw[←aY] at this
 exact this
theorem ZW(hC:∀main T,C main T→Closed P main T){r:Nat}{L R:Cells}(ho:ops[i]?=some ⟨dst,.next x true,ty,pos,cX,g⟩) (hw:aw ops n env g=true) (hx:bp n env x=some (.pointer (some ⟨r,0,none⟩))) (hs:s.rw=L++(r,.stringIter b p)::R) (hp:p <b.size)
 (h:ab C fn az ops rest Q (A n (upd dst (.tuple ⟨[.bool true,.int .i64 p,.int .i32 (Utf8.decode b p).1]⟩) env) D) ⟨s.ro,L++(r,.stringIter b (p+(Utf8.decode b p).2))::R⟩):ab C fn az ops (i::rest) Q (A n env D) s:=by
 refine bR hC ho hw (by simp) ?_
 simp only[execOp,Instr.next,aa,aF hx]
 refine cD (o:= .stringIter b p) (.inr (by rw[hs];simp)) rfl rfl ?_
 simp only[aa,hp,if_true]
 refine eg (o:= .stringIter b (p+(Utf8.decode b p).2)) rfl hs rfl ?_
 rw[←aY] at h
 exact h
theorem ZX(hC:∀main T,C main T→Closed P main T){r:Nat}{L R:Cells}(ho:ops[i]?=some ⟨dst,.next x true,ty,pos,cX,g⟩) (hw:aw ops n env g=true) (hx:bp n env x=some (.pointer (some ⟨r,0,none⟩))) (hs:s.rw=L++(r,.stringIter b p)::R) (hp:¬p <b.size)
 (h:ab C fn az ops rest Q (A n (upd dst (.tuple ⟨[.bool false]⟩) env) D) s):ab C fn az ops (i::rest) Q (A n env D) s:=by
 refine bR hC ho hw (by simp) ?_
 simp only[execOp,Instr.next,aa,aF hx]
 refine cD (o:= .stringIter b p) (.inr (by rw[hs];simp)) rfl rfl ?_
 simp only[aa,hp,if_false]
 rw[←aY] at h
 exact h
end rules
end Go.L
