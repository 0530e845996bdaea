/- Part 3 of the proof. -/
import Derived.Test.YtfamogolneloaaaGreatDoorR2
import Derived.Conc.CrowdStepC
import Derived.Conc.Own2
import Derived.Conc.TokenWalk
set_option maxRecDepth 100000
set_option linter.all false
namespace Go.L
open Go Go.Conc
open Go.ConcR (KK wgBlock WgAt stA smA rd wr)
variable {P:Program} {s cs iG:List Frame} {f fr nW:Frame} {Q:Machine→Outcome→World→Trace→Prop} {ty:TypeId} {main:Bool} {α:Type} {rest l:List Code} {W mh id i p n off pc sz:Nat} {T:Goroutine→St→Prop} {vs ws:List Value} {x:Operand} {xs:Array Operand} {g:Goroutine} {ca args fi:Array Value} {todo:List Nat} {b:ByteArray} {z:Value} {ats at_:Array TypeId} {s':St} {o:Obj} {st sm:Int}
section
variable {ι:Type} {E:dY ι} {L:Nat→Option Obj} {K:Nat→St} {gs:Array Goroutine} {w:World} {t:Trace} {D:List (ar ι)} {d0:Nat} {main:Goroutine} {sl:Option (Nat×Nat)}
 {ic n:Nat} {g:Goroutine}
def Io(E:dY ι)(pc:Nat)(K:Nat→St)(w:World)(t:Trace):Prop:=
 (∃sn tm,w.heap[E.Ch]?=some (.chan 0 #[] true sn sn tm))∧¬(K 0).knows E.Ch∧t.act? pc=some (.close E.Ch)∧t.heard pc∧(∀a,NoRelease a t)∧w.os=E.os∧w.output=E.out
theorem Hv(E:dY ι)(pc:Nat):YQ (Io E pc) where
 grow:=fun K w t u h hu=>⟨h.1,h.2.1,by rw[act?_old (lt_of_act? h.2.2.1)];exact h.2.2.1,(heard_old (lt_of_act? h.2.2.1)).2 h.2.2.2.1,fun a=>(h.2.2.2.2.1 a).app fun op aA=>hu op aA a,h.2.2.2.2.2⟩
 drawn:=fun K w t d h=>h
 le:=fun K w t s h hl=>⟨h.1,by rw[aD];exact fun hk=>h.2.1 (hl.knows hk),h.2.2⟩
 own:=fun K w t s' w' es u h ht hu=>by
  obtain⟨⟨sn,tm,hc⟩,hk,ha,hh,hn,QA⟩:=h
  have cL:=lt_size hc
  refine⟨⟨sn,tm,by rw[ht.frame _ cL fun ho=>hk (.inr ho)];exact hc⟩,?_,by rw[act?_old (lt_of_act? ha)];exact ha,(heard_old (lt_of_act? ha)).2 hh,fun a=>(hn a).app fun op aA=>hu op aA a,ht.os.trans QA.1,ht.output.trans QA.2⟩
  rw[aD]
  rintro(h'|h')
  ·rcases ht.Mm _ h' with h1|h1|h1
   ·omega
   ·exact hk (.inl h1)
   exact hk (.inr h1)
  rcases ht.own _ h' with h1|h1
  ·omega
  exact hk (.inr h1)
theorem Zs{r:ar ι}(h1:r.cnt=0)(h4:r.c4=0)(h3:r.c3=0)(h2:r.c2=0)(hc:r≠ .closer):∃q d c,r= .leave q d c:=by
 cases r with
 |leave q d c=>exact⟨q,d,c,rfl⟩
 |closer=>exact absurd rfl hc
 |st k n=>cases k<;>simp[ar.cnt,ar.c4,ar.c3,ar.c2] at h1 h4 h3 h2
 |_=>exact absurd h1 (by simp[ar.cnt])
theorem AcqAll.known(hA:AcqAll E t D ic)(hn:NoRelease (stA E.Wg) t){u:Trace}(hpc:t.size≤pc){y:MemOp}(hy:(t++u)[pc]?=some y) (hyg:y.g=ic+1) {r:ar ι} (hi:D[i]?=some r) (hc:r.cur=true)
 (hp:t.g? p=some (i+1)) (hct:t.counts p):HappensBefore (t++u) p pc:=by
 obtain⟨q,h1,h2,h3,h4⟩:=hA
 obtain⟨x,hx,hxq⟩:=h4 i r hi hc
 have hq:=lt_of_act? h1
 have hqg:=h2
 obtain⟨oq,hoq,hgq⟩:=Option.map_eq_some_iff.1 h2
 have aa2:HappensBefore t x q:= .single (.inr ⟨.marked hxq (.inr hx.act) h1 (fun k _ _=>hn k),hx.heard,h3⟩)
 have last:HappensBefore (t++u) q pc:=hb_po (by omega) (by rw[getElem?_append_old hq];exact hoq) hy (hgq.trans hyg.symm)
 have hle:p≤x:=Nat.le_of_not_lt fun cL=>hx.after p cL hp hct
 rcases Nat.lt_or_ge p x with cL|QX
 ·exact((hb_app u (.trans (.single (.inl ⟨cL,_,hp,hx.g⟩)) aa2)).trans last)
 obtain rfl:p=x:=by omega
 exact(hb_app u aa2).trans last
def aeN(qc:Nat):ar ι→Nat
 | .leave q _ _=>q
 |_=>qc
theorem Inv.close(h:Inv E L K gs w t D 0 (some (ic,.run .leaf,n)) main d0){main':Goroutine}(hm:∀(a a':Goroutine) (w':World),mayWake E.P a=true→(a'.status= .running∨a'.status= .finished)→(∃sn tm,w'.heap[E.Ch]?=some (.chan 0 #[] true sn sn tm))→woken E.P a a' w' main=main')
 (hg:gs[ic+1]?=some g):
 ∃lv w' u q,runT E.P (crowd gs w sl) (ic+1)=(.next (crowd lv w' sl),u)∧Lv E.P (jD (t.size+1)) L (fun j=>if j=0 then K 0 else ⟨fun _=>none,[]⟩) lv w' (t++u) q∧lv[0]?=some main'∧Deaf (t++u) 0=d0∧
  Io E (t.size+1) (fun j=>if j=0 then K 0 else ⟨fun _=>none,[]⟩) w' (t++u)∧kM D=[]:=by
 obtain⟨hic,GX,zc,⟨gc,Fe,p8⟩,UK⟩:=h.sy.EO
 obtain rfl:gc=g:=by rw[hg] at Fe;exact(Option.some.inj Fe).symm
 obtain⟨st,sm,ha,nn⟩:=h.sy.cells
 obtain⟨e1,e4,e3,e2,rfl,rfl⟩:=nn.run rfl trivial
 obtain⟨_,hs,hmw,g',bU,q,hq⟩:=p8
 obtain⟨sn,rc,tm,hc⟩:=h.sy.chan
 have avF:=h.sy.bal _ _ _ hc
 subst avF
 have hA:=UK ⟨_,rfl⟩
 have cL:=(List.getElem?_eq_some_iff.1 hic).1
 have Un:∀k r,D[k]?=some r→k≠ic→∃q d c,r= .leave q d c:=fun k r hk dX=>by
  refine Zs ?_ ?_ ?_ ?_ fun e=>dX (GX k (e▸hk))
  ·have:=ue ar.cnt hk;omega
  ·have:=ue ar.c4 hk;omega
  ·have:=ue ar.c3 hk;omega
  have:=ue ar.c2 hk;omega
 have gL:=bU w sn sn tm hc
 have bV:=runT_crowd_go (P:=E.P) (sl:=sl) (i:=ic+1) hg (by simpa using gL)
 have q1:MemOp.ofEvents (ic+1) gc.frame.fn gc.frame.place #[⟨.obj E.Ch,false,true⟩,⟨.obj E.Ch,true,true⟩]= #[{g:=ic+1,fn:=gc.frame.fn,pos:=gc.frame.place,act:= .access ⟨.obj E.Ch,false,true⟩},{g:=ic+1,fn:=gc.frame.fn,pos:=gc.frame.place,act:= .close E.Ch}]:=by rw[ofEvents_eq];simp[MemAct.ofEvent]
 rw[q1] at bV
 generalize hu:(#[{g:=ic+1,fn:=gc.frame.fn,pos:=gc.frame.place,act:= .access ⟨.obj E.Ch,false,true⟩},{g:=ic+1,fn:=gc.frame.fn,pos:=gc.frame.place,act:= .close E.Ch}]:Trace)=u at bV
 have KU:∀op∈u,op.g=ic+1∧(op.act= .access ⟨.obj E.Ch,false,true⟩∨op.act= .close E.Ch):=by rw[←hu];intro op aA;simp at aA;rcases aA with rfl|rfl<;>simp
 have XE:∀op∈u,∀x,op.act.touch?=some x→x=⟨.obj E.Ch,false,.atomic⟩:=fun op aA x hx=>by
  rcases(KU op aA).2 with e|e<;>rw[e] at hx
  ·simp only[MemAct.touch?,if_true,Option.some.injEq] at hx;exact hx.symm
  cases hx
 have QQ:∀op∈u,∀m,op.act≠ .mark m:=fun op aA m=>by rcases(KU op aA).2 with e|e<;>rw[e]<;>simp
 have aGQ:E.Ch <w.heap.size:=lt_size hc
 have tq:(w.heap.setIfInBounds E.Ch (.chan 0 #[] true sn sn tm))[E.Ch]?=some (.chan 0 #[] true sn sn tm):=by simp[aGQ]
 have hpc:(t++u)[t.size+1]?=some {g:=ic+1,fn:=gc.frame.fn,pos:=gc.frame.place,act:= .close E.Ch}:=by rw[←hu];simp
 have hle:∀j,((fun j=>if j=0 then K 0 else ⟨fun _=>none,[]⟩) j:St).le (K j):=fun j=>by
  by_cases e:j=0
  ·subst e;exact St.le_refl _
  simp only[if_neg e];exact⟨(K j).rw,by simp,fun b o hb=>(by cases hb)⟩
 have aSp:∀x:Goroutine,(x.status= .running∨x.status= .finished)→woken E.P gc g' {w with heap:=w.heap.setIfInBounds E.Ch (.chan 0 #[] true sn sn tm)} x=x:=fun x hx=>by
  unfold Go.Conc.woken
  split
  ·exact again_running _ hx
  rfl
 have kQ:∀i r,D[i]?=some r→i≠ic→jD (t.size+1) (t++u) (i+1):=fun i r hi dX=>by
  obtain⟨x,hx,fB⟩:=h.base.ok i r hi
  obtain⟨qq,d,c,rfl⟩:=Un i r hi dX
  refine⟨by rw[←hu];simp,?_⟩
  cases c with
  |false=>exact .inl ((fB.2.2.2.2 rfl).other fun op aA=>by rw[(KU op aA).1];omega)
  |true=>
   refine .inr fun p hp hct=>?_
   obtain⟨op,ho,hgo⟩:=Option.map_eq_some_iff.1 hp
   rcases getElem?_append_cases ho with ⟨Up,_⟩| ⟨_,jv⟩
   ·exact hA.known (h.sy.norel _) (Nat.le_succ _) hpc rfl hi rfl (by rw[←g?_old (u:=u) Up];exact hp) ((counts_old Up).1 hct)
   rw[(KU op jv).1] at hgo;omega
 refine⟨_,_,u,D.map (aeN q),bV,⟨?_,by simp[h.base.size],fun k x hk=>?_,fun i b hi hk=>?_,fun op aA=>?_⟩,?_,?_,⟨⟨sn,tm,tq⟩,h.sy.kC 0,?_,?_,fun a=>(h.sy.norel a).app fun op aA=>QQ op aA _,h.base.same.1,h.base.same.2⟩,?_⟩
 ·refine(h.base.fit.beside E.Ch (ic+1) h.sy.kC h.sy.lC aGQ (by simp) (fun b hb _=>by simp[Ne.symm hb]) (fun op aA=>(KU op aA).1) fun op aA x hx=>?_).le hle
  obtain rfl:=XE op aA x hx
  refine⟨rfl,fun sd p a uU hc=>h.sy.plain _ (.inr ⟨ic,_,rfl,hic,rfl⟩) p a uU (.inr (by rw[hc.1];rfl)) ?_⟩
  rcases hc.2.2.2 with h3|h3|h3
  ·exact h3
  ·cases h3
  cases h3.2.2
 ·rw[List.getElem?_map] at hk
  obtain⟨r,hr,rfl⟩:=Option.map_eq_some_iff.1 hk
  by_cases dX:k=ic
  ·subst dX
   rw[hic] at hr
   cases hr
   refine⟨g',0,by simp[h.base.size,cL],hq,by rw[gp _ _ _ QQ];exact zc,by rw[←hu];simp,.inr fun p hp hct=>?_⟩
   obtain⟨op,ho,hgo⟩:=Option.map_eq_some_iff.1 hp
   rcases Nat.lt_or_ge p (t.size+1) with Up|QX
   ·exact hb_po Up ho hpc hgo
   have hpe:p=t.size+1:=by
    have:=lt_size ho
    rw[←hu] at this
    simp at this
    omega
   subst hpe
   obtain⟨y,hy,_⟩:=hct
   obtain⟨o',Fb,lU⟩:=touch_of hy
   rw[hpc] at Fb;cases Fb
   cases lU
  obtain⟨x,hx,fB⟩:=h.base.ok k r hr
  have bW:=kQ k r hr dX
  obtain⟨qq,d,c,rfl⟩:=Un k r hr dX
  exact⟨x,d,by rw[gu (by omega) hx,aSp x fB.2.1.status],fB.2.1,by rw[gp _ _ _ QQ];exact fB.2.2.1,bW⟩
 ·simp only[if_neg hi] at hk
  rcases hk with hk| ⟨o,ho⟩
  ·exact hk rfl
  cases ho
 ·rw[Array.size_setIfInBounds,Array.size_map]
  rcases Array.mem_append.1 aA with h'|h'
  ·exact h.base.ops op h'
  rw[(KU op h').1,h.base.size];omega
 ·rw[gu (by omega) h.main,hm _ _ _ hmw hq.status ⟨sn,tm,tq⟩]
 ·rw[gp _ _ _ QQ];exact h.deaf
 ·rw[act?_of hpc]
 ·refine⟨ic+1,by simp[Trace.g?,hpc],?_⟩
  have e2:t++u=(t++ #[({g:=ic+1,fn:=gc.frame.fn,pos:=gc.frame.place,act:= .access ⟨.obj E.Ch,false,true⟩}:MemOp)])++ #[({g:=ic+1,fn:=gc.frame.fn,pos:=gc.frame.place,act:= .close E.Ch}:MemOp)]:=by rw[←hu,Array.append_assoc];rfl
  have e3:=gp t (ic+1) #[({g:=ic+1,fn:=gc.frame.fn,pos:=gc.frame.place,act:= .access ⟨.obj E.Ch,false,true⟩}:MemOp)] (by intro op aA m;simp only[List.mem_toArray,List.mem_singleton] at aA;subst aA;simp)
  rw[e2,deaf_old (by simp)]
  unfold Deaf at e3 zc
  rw[Array.size_append] at e3
  exact e3.trans zc
 unfold kM
 rw[List.filterMap_eq_nil_iff]
 intro r hr
 obtain⟨k,hk⟩:=List.getElem?_of_mem hr
 by_cases dX:k=ic
 ·subst dX;rw[hic] at hk;cases hk;rfl
 obtain⟨qq,d,c,rfl⟩:=Un k r hk dX;rfl
end
section
variable {ι:Type} {E:dY ι} {L:Nat→Option Obj} {K:Nat→St} {gs:Array Goroutine} {w w':World} {t u:Trace} {D:List (ar ι)} {pend d0:Nat} {cl:Ab} {main:Goroutine} {sl:Option (Nat×Nat)}
 {i:Nat} {g g':Goroutine} {es:Array Event}
def PLt(mx:Nat):List (ar ι)×Ab→List (ar ι)×Ab→Prop:=Prod.Lex (One uC) (InvImage EU (nG mx))
theorem PLt.wf(mx:Nat):WellFounded (PLt (ι:=ι) mx):=(Prod.lex ⟨_,One.wf uC.wf⟩ ⟨_,InvImage.wf (nG mx) EU.wf⟩).wf
theorem Inv.other(h:Inv E L K gs w t D pend cl main d0)(hm:gQ E main)(hg:gs[i+1]?=some g) (hs:g.status= .running) (AS:D[i]?≠some (.back .leaf)) (DL:∀n,cl≠some (i,.run .leaf,n))
 (hw:(∃o,D[i]?=some (.work o .leaf))→main.status= .running):
 ∃K' lv w' u D' cl',runT E.P (crowd gs w sl) (i+1)=(.next (crowd lv w' sl),u)∧Inv E L K' lv w' (t++u) D' pend cl' main d0∧K' 0=K 0∧kM D'=kM D∧cl'.isSome=cl.isSome∧PLt E.max (D',cl') (D,cl)∧∀o,ar.gJ o∈D'→ar.gJ o∈D∨main.status= .running:=by
 have cL:i <D.length:=by have:=lt_size hg;have:=h.base.size;omega
 have hD:D[i]?=some D[i]:=List.getElem?_eq_getElem cL
 have fin:qP E L K D pend cl main d0 (crowd gs w sl) sl t (i+1)→
  ∃K' lv w' u D' cl',runT E.P (crowd gs w sl) (i+1)=(.next (crowd lv w' sl),u)∧Inv E L K' lv w' (t++u) D' pend cl' main d0∧K' 0=K 0∧kM D'=kM D∧cl'.isSome=cl.isSome∧PLt E.max (D',cl') (D,cl)∧∀o,ar.gJ o∈D'→ar.gJ o∈D∨main.status= .running:=by
  rintro⟨K',lv,w',u,D',cl',h1,h2,h3,h4,h5,h6,h7,h8⟩
  refine⟨K',lv,w',u,D',cl',h1,h2,h3,h4,?_,Prod.Lex.left _ _ h5,h8⟩
  cases hc:cl with
  |none=>rw[h6 hc]
  |some x=>have:=h7 (by rw[hc];simp);cases cl'<;>simp_all
 obtain⟨x,hx,fB⟩:=h.base.ok i _ hD
 obtain rfl:x=g:=by rw[hg] at hx;exact(Option.some.inj hx).symm
 generalize hr:D[i]=r at hD fB
 match r,hD,fB with
 | .leave q d c,hD,fB=>exact fin (h.leave hm hD hg hs)
 | .work o (.node f),hD,fB=>exact fin (h.work hm hD hg)
 | .work o .leaf,hD,fB=>exact fin (h.Zm (hw ⟨o,hD⟩) hD hg)
 | .gJ o,hD,⟨_,ve,qE,v,zs,X,Y,e,_⟩=>rw[e] at hs;cases hs
 | .back (.node f),hD,fB=>exact fin (h.back hm hD hg)
 | .back .leaf,hD,fB=>exact absurd hD AS
 | .st k (n+1),hD,fB=>exact fin (h.arN hm hD hg)
 | .st .r0 0,hD,fB=>exact fin (h.r0 hm hD hg)
 | .st .k1 0,hD,fB=>exact fin (h.k1 hm hD hg)
 | .st .d1 0,hD,fB=>exact fin (h.d1 hm hD hg)
 | .st .d2 0,hD,fB=>exact fin (h.d2 hm hD hg)
 | .st .d3 0,hD,fB=>exact fin (h.d3 hm hD hg)
 | .st .d4 0,hD,fB=>exact fin (h.d4 hm hD hg)
 | .closer,hD,fB=>
  have jz:=h.sy.EO
  match cl,h,jz,DL with
  |none,h,jz,_=>exact(jz _ (List.mem_of_getElem? hD)).elim
  |some (ic,c,n),h,⟨_,hu,_,_,_⟩,DL=>
   have e:=hu i hD
   subst e
   obtain⟨K',lv,w',u,c',n',h1,h2,h3,h4⟩:=h.closer (sl:=sl) hm hg hs fun e=>DL n (by rw[e])
   exact⟨K',lv,w',u,D,_,h1,h2,h3,rfl,rfl,Prod.Lex.right _ h4,fun _ h=> .inl h⟩
theorem Inv.awake(h:Inv E L K gs w t D pend cl main d0)(hm:gQ E main):∀x∈gs,Go.Conc.awake x:=by
 intro x hx
 obtain⟨j,hj,rfl⟩:=Array.mem_iff_getElem.1 hx
 have hj':gs[j]?=some gs[j]:=Array.getElem?_eq_getElem hj
 intro k
 cases j with
 |zero=>
  rw[h.main] at hj'
  rw[←Option.some.inj hj']
  rcases hm with e| ⟨m,z,rfl⟩
  ·rw[e];simp
  simp[parked]
 |succ j=>
  have cL:j <D.length:=by have:=h.base.size;omega
  have hD:D[j]?=some D[j]:=List.getElem?_eq_getElem cL
  obtain⟨y,hy,fB⟩:=h.base.ok j _ hD
  rw[hj'] at hy
  rw[Option.some.inj hy]
  by_cases hb:∃o,D[j]= .gJ o
  ·obtain⟨o,e⟩:=hb
   rw[e] at fB
   obtain⟨_,ve,qE,v,zs,X,Y,rfl,_⟩:=fB
   simp[parked]
  by_cases hc:D[j]= .closer
  ·have jz:=h.sy.EO
   match cl,jz with
   |none,jz=>
    have:=jz D[j] (List.mem_of_getElem? hD)
    rw[hc] at this
    exact this.elim
   |some (ic,c,n),⟨_,h2,_,⟨gc,Fe,p8⟩,_⟩=>
    have e:=h2 j (by rw[hD,hc])
    subst e
    rw[hj',hy] at Fe
    obtain rfl:=Option.some.inj Fe
    by_cases agM:c= .blk
    ·subst agM
     obtain⟨_,ve,apT,e⟩:=p8
     rw[e];simp
    rw[CK.uA p8 agM];simp
  rcases fB.running (fun o e=>hb ⟨o,e⟩) hc with e|e<;>rw[e]<;>simp
theorem Inv.le0(h:Inv E L K gs w t D pend cl main d0){s:St}(hl:s.le (K 0)):Inv E L (fQ K 0 s) gs w t D pend cl main d0:=by
 have hle:∀j,(fQ K 0 s j).le (K j):=fun j=>by
  by_cases e:j=0
  ·subst e;rw[aD];exact hl
  rw[aH _ _ e];exact St.le_refl _
 refine⟨⟨h.base.fit.le hle,h.base.size,fun k r hk=>?_,fun k hk b hb=>h.base.far k hk b ((hle k).knows hb),h.base.ops,h.base.same⟩,
  ⟨fun j hj=>h.sy.kW j ((hle j).knows hj),fun j hj=>h.sy.kC j ((hle j).knows hj),h.sy.lW,h.sy.lC,h.sy.ne,h.sy.norel,h.sy.plain,h.sy.said,h.sy.cells,h.sy.Cc,h.sy.chan,h.sy.bal,?_⟩,h.main,h.deaf⟩
 ·rw[aH _ _ (by omega)];exact h.base.ok k r hk
 have jz:=h.sy.EO
 match cl,jz with
 |none,jz=>exact jz
 |some (ic,c,n),⟨h1,h2,h3,⟨gc,Fe,p8⟩,h5⟩=>exact⟨h1,h2,h3,⟨gc,Fe,by rw[aH _ _ (by omega)];exact p8⟩,h5⟩
def TC(E:dY ι)(L:Nat→Option Obj)(Q:Machine→Outcome→World→Trace→Prop)(pend:Nat)(b:Bool)(os:List ι)(d0:Nat)(g:Goroutine)(s:St):Prop:=
 ∀K gs w t D cl sl,cl.isSome=b→Inv E L K gs w t D pend cl g d0→kM D=os→s.le (K 0)→Ends E.P Q (crowd gs w sl) t
theorem xa{b:Bool}{os:List ι}{s:St}(hs:g.status= .running)
 (h:∀K gs w t D cl sl m,cl.isSome=b→Inv E L K gs w t D pend cl g d0→kM D=os→K 0=s→stepT E.P m=runT E.P (crowd gs w sl) 0→Ends E.P Q m t)
 (iV:b=true→pend=0∧d0=0∧(os=[]→∀pc,TL E.P (jD pc) L (Io E pc) Q g s)):TC E L Q pend b os d0 g s:=by
 intro K gs w t D cl sl hb hI ho hle
 have key:∀μ:List (ar ι)×Ab,∀K gs w t sl,μ.2.isSome=b→Inv E L K gs w t μ.1 pend μ.2 g d0→kM μ.1=os→K 0=s→Ends E.P Q (crowd gs w sl) t:=by
  intro μ
  induction μ using (PLt.wf E.max).induction with
  |_ μ ih=>
   obtain⟨D,cl⟩:=μ
   intro K gs w t sl hb hI ho hK
   simp only at hb hI ho
   obtain⟨i,fx,d,Sm,dj,GY,bU⟩:=crowd_pick (P:=E.P) (gs:=gs) (w:=w) (sl:=sl) (hI.awake (.inl hs)) ⟨0,g,hI.main,hs⟩
   have ze:=hI.at d
   cases i with
   |zero=>exact h K gs _ t D cl Sm _ hb ze ho hK bU
   |succ i=>
    by_cases Fh:D[i]?=some (.back .leaf)
    ·obtain⟨n,h1,h2,h3⟩:=hI.norm Fh
     exact ih (_,cl) (Prod.Lex.left _ _ h3) _ gs w t sl hb h1 (h2.trans ho) (by rw[aH _ _ (by omega)];exact hK)
    by_cases hc:∃n,cl=some (i,.run .leaf,n)
    ·obtain⟨n,e⟩:=hc
     subst e
     obtain⟨hp,hd,hT⟩:=iV (by rw[←hb];rfl)
     subst hp
     obtain⟨lv,w',u,q,hr,hL,h0,hdd,hG,tH⟩:=ze.close (sl:=Sm) (main':=g) (fun a a' w' _ _ _=>by
      unfold Go.Conc.woken
      split
      ·exact again_running _ (.inl hs)
      rfl) dj
     exact Ends.next (bU.trans hr) (hT (ho.symm.trans tH) (t.size+1) _ lv w' _ q Sm hL h0 (by simp only[if_true];rw[hK];exact St.le_refl _) (by rw[hdd];exact hd) hG)
    obtain⟨K',lv,w',u,D',cl',hr,Nx,mr,Iw,fY,cL,_⟩:=ze.other (sl:=Sm) (.inl hs) dj GY Fh (fun n e=>hc ⟨n,e⟩) (fun _=>hs)
    exact Ends.next (bU.trans hr) (ih (D',cl') cL K' lv w' _ Sm (fY.trans hb) Nx (Iw.trans ho) (mr.trans hK))
 exact key (D,cl) _ gs w t sl hb (hI.le0 hle) ho (aD _ _ _)
end
section
variable {ι:Type} {E:dY ι} {L:Nat→Option Obj} {Q:Machine→Outcome→World→Trace→Prop} {g:Goroutine} {s:St}
theorem V6(UP:L E.Ch=none){x:Goroutine}(hx:x.status= .running)(bU:∀w,aR s w→stepG E.P true x w= .comm g #[rcase E.Ch z] true (.recv true) w #[])
 (nu:∀w,aR s w→(∀b o,L b=some o→w.heap[b]?=some o)→aR s' w) (zy:∀b,s'.knows b→L b≠none∨s.knows b)
 (hT:TL E.P eO (fun _=>none) (Calm E.os E.out) Q (Conc.served g (.tuple #[z,.bool false])) s'):TL E.P (jD pc) L (Io E pc) Q x s:=by
 refine Me (Rg pc) (Hv E pc) hx fun K gs w t q sl m hL h0 hK hd hG hm _=>?_
 subst hK
 obtain⟨⟨sn,tm,hc⟩,hkC,am7,au7,aCY,afD⟩:=hG
 have Ix:partners (gs.setIfInBounds 0 ph) E.Ch true=[]:=partners_nil fun j y hy=>by
  rcases getElem?_stand gs _ _ _ hy with ⟨_,rfl⟩| ⟨hj,hy'⟩
  ·exact offersAt_ph _ _
  cases j with
  |zero=>exact absurd rfl hj
  |succ j=>
   have cL:j <q.length:=by have:=lt_size hy';have:=hL.size;omega
   obtain⟨y',d,hy2,hq,_⟩:=hL.ok j _ (List.getElem?_eq_getElem cL)
   rw[hy'] at hy2
   rw[Option.some.inj hy2]
   exact rk hq.status _ _
 have bV:=crowd_recv_closed (sl:=sl) h0 (by simpa using bU w (hL.fit.jR 0)) hc Ix
 have e0:MemOp.ofEvents 0 x.frame.fn x.frame.place #[]= #[]:=rfl
 rw[e0,Array.empty_append] at bV
 generalize hu:(#[{g:=0,fn:=g.frame.fn,pos:=g.frame.place,act:= .recvClosed E.Ch}]:Trace)=u at bV
 have KU:∀op∈u,op.g=0∧op.act= .recvClosed E.Ch:=by rw[←hu];intro op aA;simp at aA;subst aA;exact⟨rfl,rfl⟩
 have XE:∀op∈u,op.act.touch?=none:=fun op aA=>by rw[(KU op aA).2];rfl
 have QQ:∀op∈u,∀m,op.act≠ .mark m:=fun op aA m=>by rw[(KU op aA).2];simp
 have hr:(t++u)[t.size]?=some {g:=0,fn:=g.frame.fn,pos:=g.frame.place,act:= .recvClosed E.Ch}:=by rw[←hu];simp
 have apI:=lt_of_act? am7
 have aa2:HappensBefore (t++u) pc t.size:= .single (.inr ⟨.closed (c:=E.Ch) (by rw[act?_old apI];exact am7) (by rw[act?_of hr]),(heard_old apI).2 au7,⟨0,by simp[Trace.g?,hr],by rw[deaf_old (Nat.le_refl _)];exact hd⟩⟩)
 have de:∀i n,q[i]?=some n→eO (t++u) (i+1):=fun i n hi=>by
  obtain⟨y,d,hy,hq,hdd,hk⟩:=hL.ok i n hi
  rcases hk.2 with hk|hk
  ·exact hk.quiet XE
  intro p hp hct
  obtain⟨op,ho,hgo⟩:=Option.map_eq_some_iff.1 hp
  rcases getElem?_append_cases ho with ⟨Up,_⟩| ⟨_,jv⟩
  ·exact⟨t.size,by simp[Trace.g?,hr],(hb_app u (hk p (by rw[←g?_old (u:=u) Up];exact hp) ((counts_old Up).1 hct))).trans aa2⟩
  rw[(KU op jv).1] at hgo;omega
 have oK:=hL.fit.quiet (u:=u) (w':=w) E.Ch (fun j=>by
  by_cases e:j=0
  ·subst e;exact hkC
  exact hL.none j _ e) UP (Nat.le_refl _) (fun _ _ _=>rfl) XE
 refine Ends.next (hm.trans bV) (hT (fQ K 0 s') _ w _ q sl ⟨?_,by simp[hL.size],fun i n hi=>?_,fun i b hi hk=>?_,fun op aA=>?_⟩ ?_ (by rw[aD];exact St.le_refl _) (by rw[gp _ _ _ QQ];exact hd) ⟨fun a=>(aCY a).app fun op aA=>QQ op aA _,afD⟩)
 ·refine oK.alone (i:=0) (fun j hj b=>hL.none j b hj) s' (nu w (hL.fit.jR 0) hL.fit.Et) zy fun b hb p y hy Ss hyb=>?_
  obtain⟨op,ho,hyo⟩:=touch_of hy
  have cL:op.g <gs.size:=by
   rcases Array.mem_append.1 (mem_of_getElem? ho) with h'|h'
   ·exact hL.ops op h'
   rw[(KU op h').1,hL.size];omega
  cases hgo:op.g with
  |zero=>have:=knows_own ho;rwa[hgo] at this
  |succ k=>
   have hk:k <q.length:=by have:=hL.size;omega
   obtain⟨j,hj,mH⟩:=de k _ (List.getElem?_eq_getElem hk) p (by simp[Trace.g?,ho,hgo]) ⟨y,by simpa [touchAt] using hy,by cases hl:y.loc<;>simp_all[blk,Loc.isMemory],.inl (by rw[Ss];simp)⟩
   obtain⟨z',Ew,hzg⟩:=Option.map_eq_some_iff.1 hj
   exact⟨j,z',Ew,hzg,.inr mH⟩
 ·obtain⟨y,d,hy,hq,hdd,hk⟩:=hL.ok i n hi
  exact⟨y,d,by rw[Array.getElem?_setIfInBounds_ne (by omega)];exact hy,hq,by rw[gp _ _ _ QQ];exact hdd,de i n hi⟩
 ·rw[aH _ _ hi] at hk;exact hL.none i b hi hk
 ·rw[Array.size_setIfInBounds]
  rcases Array.mem_append.1 aA with h'|h'
  ·exact hL.ops op h'
  rw[(KU op h').1,hL.size];omega
 have:0 <gs.size:=by rw[hL.size];omega
 simp[this,finishComm_recv,recvd]
end
section
variable {ι:Type} {E:dY ι} {L:Nat→Option Obj} {K:Nat→St} {gs:Array Goroutine} {w w':World} {t:Trace} {D:List (ar ι)} {pend d0:Nat} {cl:Ab} {main:Goroutine} {sl:Option (Nat×Nat)}
 {i:Nat} {Q:Machine→Outcome→World→Trace→Prop} {g:Goroutine} {s:St}
theorem setChan_at(w:World)(d c:Nat)(h:c <w.heap.size)(sn rc:Nat)(tm:Bool):
 ((w.at d).setChan c 0 #[] false sn rc tm).heap[c]?=some (.chan 0 #[] false sn rc tm)∧((w.at d).setChan c 0 #[] false sn rc tm).heap.size=w.heap.size∧
 ∀b,b≠c→((w.at d).setChan c 0 #[] false sn rc tm).heap[b]?=w.heap[b]?:=by
 refine⟨by simp[World.setChan,World.at,h],by simp[World.setChan,World.at],fun b hb=>by simp[World.setChan,World.at,Ne.symm hb]⟩
theorem Inv.alive(h:Inv E L K gs w t D 0 cl main d0)(iV:cl≠none)(hn:∀o,ar.gJ o∉D):∃(i:Nat) (x:Goroutine),gs[i]?=some x∧x.status= .running:=by
 by_cases de:∀r∈D,r.left=true∨r= .closer
 ·have jz:=h.sy.EO
  obtain⟨st,sm,_,nn⟩:=h.sy.cells
  match cl,jz,nn,iV with
  |some (ic,c,n),⟨_,_,_,⟨gc,Fe,p8⟩,_⟩,nn,_=>
   refine⟨_,gc,Fe,CK.uA p8 fun e=>?_⟩
   subst e
   have z:∀(f:ar ι→Nat),(∀q d c,f (.leave q d c)=0)→f .closer=0→fD f D=0:=fun f h1 h2=>by
    unfold fD
    rw[List.sum_eq_zero_iff_forall_eq_nat]
    intro x hx
    obtain⟨r,hr,rfl⟩:=List.mem_map.1 hx
    rcases de r hr with e|rfl
    ·cases r<;>first|exact h1 _ _ _|cases e
    exact h2
   have z1:=z ar.cnt (fun _ _ _=>rfl) rfl
   have z4:=z ar.c4 (fun _ _ _=>rfl) rfl
   have z3:=z ar.c3 (fun _ _ _=>rfl) rfl
   have z2:=z ar.c2 (fun _ _ _=>rfl) rfl
   rw[z1,z4,z3,z2] at nn
   simp only[Option.map_some] at nn
   generalize ho:some CK.blk=o at nn
   generalize h0:0+0=k at nn
   cases nn with
   |reg _ h2=>omega
   |sema _ h2=>cases ho;exact h2 rfl
   |over h1=>cases ho;exact h1.elim
   |_=>cases ho
 obtain⟨r,lV⟩:=Classical.not_forall.1 de
 obtain⟨hr,IG⟩:=Classical.not_imp.1 lV
 have h1:¬r.left=true:=fun e=>IG (.inl e)
 have h2:r≠ .closer:=fun e=>IG (.inr e)
 obtain⟨k,hk⟩:=List.getElem?_of_mem hr
 obtain⟨x,hx,fB⟩:=h.base.ok k r hk
 refine⟨_,x,hx,?_⟩
 cases r with
 |leave q d c=>exact absurd rfl h1
 |work o tr=>exact oT.running (fun _ _ y=>y.1) fB.2
 |gJ o=>exact absurd hr (hn o)
 |back tr=>exact oT.running (fun _ _ y=>dY.pure.running (fun _ z=>z.1) y) fB.2
 |st k n=>exact Pure.running (WK.running k) fB.2.2.1
 |closer=>exact absurd rfl h2
theorem Inv.Zn(h:Inv E L K gs w t D pend cl (parked g #[rcase E.Ch z] (.recv true)) 0)(iV:cl≠none){o:ι}{gw:Goroutine}(hi:D[i]?=some (.work o .leaf)) (hg:gs[i+1]?=some gw):
 ∃K' lv w' u D' v X a b,runT E.P (crowd gs w sl) (i+1)=(.next (crowd lv w' sl),u)∧Inv E L K' lv w' (t++u) D' pend cl (Conc.served g (.tuple #[v,.bool true])) 0∧K' 0=⟨(K 0).ro,X++(K 0).rw⟩∧
  E.VM o v X∧kM D=a++o::b∧kM D'=a++b:=by
 obtain⟨fx,dj,fB⟩:=h.base.ok i _ hi
 obtain rfl:fx=gw:=by rw[hg] at dj;exact(Option.some.inj dj).symm
 obtain⟨hd,hs,qE,v,zs,X,Y,hXY,oI,bU,tr,iE,hle,ya⟩:=fB
 obtain⟨sn,rc,tm,hc⟩:=h.sy.chan
 have u5:=h.base.size
 have aRq:partners (gs.setIfInBounds (i+1) ph) E.Ch false=[(0,0)]:=by
  have h0:(gs.setIfInBounds (i+1) ph)[0]?=some (parked g #[rcase E.Ch z] (.recv true)):=stand_get (by omega) h.main
  rw[partners_one h0 fun k x hk hx=>?_]
  ·rw[offersAt_parked_recv];simp
  rcases getElem?_stand gs _ _ _ hx with ⟨_,rfl⟩| ⟨_,lU⟩
  ·exact offersAt_ph _ _
  cases k with
  |zero=>exact absurd rfl hk
  |succ k=>
   rcases h.offers lU with ⟨o',g',v',zs',_,rfl⟩|hn
   ·exact offersAt_parked_send' _ _ _ _ _ _
   exact hn _ _
 have bV:=crowd_send_meets (sl:=sl) hg (by simpa using bU w (h.base.fit.jR _)) hc (by omega) h.main aRq
 have e0:MemOp.ofEvents (i+1) fx.frame.fn fx.frame.place #[]= #[]:=rfl
 rw[e0,Array.empty_append] at bV
 obtain⟨a,b,ha,hb⟩:=B5 (r':=ar.back tr) rfl hi (o:=o) rfl
 have hwc:=setChan_at w w.drawn E.Ch (lt_size hc) (sn+1) (rc+1) tm
 refine⟨_,_,_,_,_,v,X,a,b,bV,h.meet iV hi (.inl rfl) hd hXY hle ya (by simp) ?_ ?_ (fun k h1 h2=>?_) hc hwc.1 hwc.2.1 hwc.2.2 ⟨rfl,rfl⟩ ⟨rfl,rfl⟩ ⟨rfl,rfl⟩ ⟨rfl,rfl⟩ ⟨rfl,rfl⟩,aD _ _ _,oI,ha,hb⟩
 ·rw[Array.getElem?_setIfInBounds_ne (by omega),Array.getElem?_setIfInBounds_self_of_lt (by omega)]
  rw[finishComm_recv];rfl
 ·rw[Array.getElem?_setIfInBounds_self_of_lt (by have:=lt_size hg;simpa using this)]
  rw[finishComm_send]
 rw[Array.getElem?_setIfInBounds_ne (Ne.symm h2),Array.getElem?_setIfInBounds_ne (Ne.symm h1)]
theorem PJ{os:List ι}
 (KW:∀a o b v X,os=a++o::b→E.VM o v X→TC E L Q 0 true (a++b) 0 (Conc.served g (.tuple #[v,.bool true])) ⟨s.ro,X++s.rw⟩)
 (qA:os=[]→∀pc,TL E.P (jD pc) L (Io E pc) Q {parked g #[rcase E.Ch z] (.recv true) with status:= .running} s):
 ∀(μ:List (ar ι)×Ab) K gs w t sl,μ.2.isSome=true→Inv E L K gs w t μ.1 0 μ.2 (parked g #[rcase E.Ch z] (.recv true)) 0→kM μ.1=os→K 0=s→(∀o,ar.gJ o∉μ.1)→Ends E.P Q (crowd gs w sl) t:=by
 intro μ
 induction μ using (PLt.wf E.max).induction with
 |_ μ ih=>
  obtain⟨D,cl⟩:=μ
  intro K gs w t sl hb hI ho hK hn
  simp only at hb hI ho hn
  have iV:cl≠none:=fun e=>by rw[e] at hb;cases hb
  have QP:gQ E (parked g #[rcase E.Ch z] (.recv true)):= .inr ⟨g,z,rfl⟩
  obtain⟨i,fx,d,Sm,dj,GY,bU⟩:=crowd_pick (P:=E.P) (gs:=gs) (w:=w) (sl:=sl) (hI.awake QP) (hI.alive iV hn)
  have ze:=hI.at d
  cases i with
  |zero=>rw[hI.main] at dj;rw[←Option.some.inj dj] at GY;cases GY
  |succ i=>
   by_cases Fh:D[i]?=some (.back .leaf)
   ·obtain⟨n,h1,h2,h3⟩:=hI.norm Fh
    refine ih (_,cl) (Prod.Lex.left _ _ h3) _ gs w t sl hb h1 (h2.trans ho) (by rw[aH _ _ (by omega)];exact hK) fun o hm=>?_
    rcases List.mem_or_eq_of_mem_set hm with h'|h'
    ·exact hn o h'
    cases h'
   by_cases hc:∃n,cl=some (i,.run .leaf,n)
   ·obtain⟨n,e⟩:=hc
    subst e
    obtain⟨lv,w',u,q,hr,hL,h0,hdd,hG,tH⟩:=ze.close (sl:=Sm) (main':={parked g #[rcase E.Ch z] (.recv true) with status:= .running}) (fun a a' w' hmw nu ⟨sn,tm,tq⟩=>by
     have:(mayWake E.P a&&a'.status != .blocked&&a'.status != .waiting)=true:=by rcases nu with e|e<;>simp[hmw,e]
     unfold Go.Conc.woken
     rw[if_pos this]
     exact again_recv_closed tq) dj
    exact Ends.next (bU.trans hr) (qA (ho.symm.trans tH) (t.size+1) _ lv w' _ q Sm hL h0 (by simp only[if_true];rw[hK];exact St.le_refl _) (by rw[hdd]) hG)
   by_cases EA:∃o,D[i]?=some (.work o .leaf)
   ·obtain⟨o,hi⟩:=EA
    obtain⟨K',lv,w',u,D',v,X,a,b,hr,Nx,mr,oI,ha,mH⟩:=ze.Zn (sl:=Sm) iV hi dj
    refine Ends.next (bU.trans hr) (KW a o b v X (ho.symm.trans ha) oI K' lv w' _ D' cl Sm hb Nx mH ?_)
    rw[mr,hK];exact St.le_refl _
   obtain⟨K',lv,w',u,D',cl',hr,Nx,mr,Iw,fY,cL,hsb⟩:=ze.other (sl:=Sm) QP dj GY Fh (fun n e=>hc ⟨n,e⟩) (fun hx=>absurd hx EA)
   refine Ends.next (bU.trans hr) (ih (D',cl') cL K' lv w' _ Sm (fY.trans hb) Nx (Iw.trans ho) (mr.trans hK) fun o hm=>?_)
   rcases hsb o hm with h'|h'
   ·exact hn o h'
   cases h'
theorem Wa{os:List ι}(hs:g.status= .running)(bU:∀w,aR s w→stepG E.P true g w= .comm g #[rcase E.Ch z] true (.recv true) w #[])
 (KW:∀a o b v X,os=a++o::b→E.VM o v X→TC E L Q 0 true (a++b) 0 (Conc.served g (.tuple #[v,.bool true])) ⟨s.ro,X++s.rw⟩)
 (qA:os=[]→∀pc,TL E.P (jD pc) L (Io E pc) Q g s∧TL E.P (jD pc) L (Io E pc) Q {parked g #[rcase E.Ch z] (.recv true) with status:= .running} s):TC E L Q 0 true os 0 g s:=by
 refine xa hs (fun K gs w t D cl sl m hb hI ho hK hm=>?_) fun _=>⟨rfl,rfl,fun h pc=>(qA h pc).1⟩
 have iV:cl≠none:=fun e=>by rw[e] at hb;cases hb
 obtain⟨sn,rc,tm,hc⟩:=hI.sy.chan
 have hgo:=bU w (hK▸hI.base.fit.jR 0)
 have e0:MemOp.ofEvents 0 g.frame.fn g.frame.place #[]= #[]:=rfl
 by_cases dX:partners (gs.setIfInBounds 0 ph) E.Ch true=[]
 ·have bV:=crowd_waits (sl:=sl) hI.main (by simpa using hgo) (fun cc uR=>by
   simp only[List.mem_toArray,List.mem_singleton] at uR
   subst uR
   exact ways_recv_none hc dX)
  rw[e0] at bV
  have u5:=hI.base.size
  refine Ends.next (hm.trans bV) (PJ KW (fun h pc=>(qA h pc).2) (D,cl) K _ w _ sl hb ⟨⟨?_,by simp[u5],fun k r hk=>?_,fun k hk=>hI.base.far k (by simpa using hk),fun op aA=>?_,hI.base.same⟩,?_,?_,?_⟩ ho hK fun o hm=>?_)
  ·rw[Array.append_empty];exact hI.base.fit
  ·obtain⟨x,hx,fB⟩:=hI.base.ok k r hk
   exact⟨x,by rw[Array.getElem?_setIfInBounds_ne (by omega)];exact hx,by rw[Array.append_empty];exact fB⟩
  ·rw[Array.append_empty] at aA;rw[Array.size_setIfInBounds];exact hI.base.ops op aA
  ·rw[Array.append_empty]
   refine⟨hI.sy.kW,hI.sy.kC,hI.sy.lW,hI.sy.lC,hI.sy.ne,hI.sy.norel,hI.sy.plain,hI.sy.said,hI.sy.cells,hI.sy.Cc,hI.sy.chan,hI.sy.bal,?_⟩
   have jz:=hI.sy.EO
   match cl,jz with
   |none,jz=>exact jz
   |some (ic,c,n),⟨h1,h2,h3,⟨gc,Fe,p8⟩,h5⟩=>exact⟨h1,h2,h3,⟨gc,by rw[Array.getElem?_setIfInBounds_ne (by omega)];exact Fe,p8⟩,h5⟩
  ·rw[Array.getElem?_setIfInBounds_self_of_lt (by omega)]
  ·rw[Array.append_empty];exact hI.deaf
  obtain⟨k,hk⟩:=List.getElem?_of_mem hm
  obtain⟨x,hx,_,ve,qE,v,zs,X,Y,rfl,_⟩:=hI.base.ok k _ hk
  have:((k+1,0):Nat×Nat)∈partners (gs.setIfInBounds 0 ph) E.Ch true:=mem_partners.2 ⟨_,stand_get (by omega) hx,by rw[offersAt_parked_send];simp⟩
  rw[dX] at this;cases this
 obtain⟨j,gj,vj,zj,shj,d,hj0,hj,bV⟩:=crowd_recv_meets_some (sl:=sl) hI.main (by simpa using hgo) hc dX fun j k Oz=>by
  obtain⟨x,hx,hk⟩:=mem_partners.1 Oz
  rcases getElem?_stand gs _ _ _ hx with ⟨_,rfl⟩| ⟨hj0,lU⟩
  ·rw[offersAt_ph] at hk;cases hk
  cases j with
  |zero=>exact absurd rfl hj0
  |succ j=>
   rcases hI.offers lU with ⟨o',g',v',zs',_,rfl⟩|hn
   ·rw[offersAt_parked_send] at hk
    simp at hk
    exact⟨hk,by omega,_,_,_,_,lU⟩
   rw[hn] at hk;cases hk
 rw[e0,Array.empty_append] at bV
 cases j with
 |zero=>exact absurd rfl hj0
 |succ i=>
  rcases hI.offers hj with ⟨o,qE,v,zs,hi,e⟩|hn
  ·obtain⟨x,hx,zc,ve,aGV,v',zs',X,Y,e',hXY,oI,_,tr,iE,hle,ya⟩:=hI.base.ok i _ hi
   obtain rfl:x=parked gj #[scase E.Ch vj zj] shj:=by rw[hj] at hx;exact(Option.some.inj hx).symm
   have hv:vj=v':=by
    have:=congrArg Goroutine.offers e'
    simp only[parked,scase,Option.some.injEq,Prod.mk.injEq,Array.mk.injEq,List.cons.injEq,CommCase.mk.injEq] at this
    exact this.1.1.2.1
   have hsv:gj.finishComm E.P #[scase E.Ch vj zj] shj 0 undef false=Conc.served aGV undef:=by
    have h1:shj= .send:=by
     have:=congrArg Goroutine.offers e'
     simp only[parked,Option.some.injEq,Prod.mk.injEq] at this
     exact this.2
    subst h1
    rw[finishComm_send]
    have h2:=congrArg (fun x:Goroutine=>Conc.served x undef) e'
    exact h2
   subst hv
   obtain⟨a,b,ha,mH⟩:=B5 (r':=ar.back tr) rfl hi (o:=o) rfl
   have hwc:=setChan_at w d E.Ch (lt_size hc) (sn+1) (rc+1) tm
   have u5:=hI.base.size
   refine Ends.next (hm.trans bV) (KW a o b vj X (ho.symm.trans ha) oI _ _ _ _ (D.set i (.back tr)) cl sl hb
    (hI.meet iV hi (.inr rfl) zc hXY hle ya (by simp) ?_ ?_ (fun k h1 h2=>?_) hc hwc.1 hwc.2.1 hwc.2.2 ⟨rfl,rfl⟩ ⟨rfl,rfl⟩ ⟨rfl,rfl⟩ ⟨rfl,rfl⟩ ⟨rfl,rfl⟩) mH ?_)
   ·rw[Array.getElem?_setIfInBounds_self_of_lt (by simp;omega),finishComm_recv];rfl
   ·rw[Array.getElem?_setIfInBounds_ne (by omega),Array.getElem?_setIfInBounds_self_of_lt (lt_size hj),hsv]
   ·rw[Array.getElem?_setIfInBounds_ne (Ne.symm h1),Array.getElem?_setIfInBounds_ne (Ne.symm h2)]
   rw[aD,hK];exact St.le_refl _
  have:(0:Nat)∈offersAt (parked gj #[scase E.Ch vj zj] shj) E.Ch true:=by rw[offersAt_parked_send];simp
  rw[hn] at this;cases this
end
section
variable {ι:Type} {E:dY ι} {L:Nat→Option Obj} {K:Nat→St} {gs:Array Goroutine} {w w':World} {t:Trace} {D:List (ar ι)} {pend d0:Nat} {cl:Ab} {sl:Option (Nat×Nat)}
 {Q:Machine→Outcome→World→Trace→Prop} {g g':Goroutine} {s:St} {es:Array Event}
theorem Inv.go0(h:Inv E L K gs w t D pend cl g d0)(hgo:stepG E.P true g w= .go g' w' es)(QA:VN w w')(bY:¬s'.knows E.Wg)(oU:¬s'.knows E.Ch)(vu:w'.heap[E.Ch]?=w.heap[E.Ch]?)
 (oK:Fit L (fQ K 0 s') w' (t++MemOp.ofEvents 0 g.frame.fn g.frame.place es))
 (lh:∀op∈MemOp.ofEvents 0 g.frame.fn g.frame.place es,∀x,op.act.touch?=some x→E.At x→x.kind≠ .plain∧(x.kind= .said→cl=none))
 (iH:∀op∈MemOp.ofEvents 0 g.frame.fn g.frame.place es,∀a,op.act≠ .mark (.release a)) 
 (nT:∀cl',zq cl cl'→∃st sm,WgAt E.ty E.Wg w' st sm∧Md E.max (fD ar.cnt D+mh) (fD ar.c4 D) (fD ar.c3 D) (fD ar.c2 D) (cl'.map (·.2.1)) st sm) (QO:fD ar.cnt D+mh≤E.max):
 ∃lv u cl',runT E.P (crowd gs w sl) 0=(.next (crowd lv w' sl),u)∧Inv E L (fQ K 0 s') lv w' (t++u) D mh cl' g' (deafBehind d0 es)∧cl'.isSome=cl.isSome:=by
 have KU:∀op∈MemOp.ofEvents 0 g.frame.fn g.frame.place es,op.g=0:=fun op aA=>Go.ConcR.g_of_ofEvents op aA
 have bV:=runT_crowd_go (P:=E.P) (sl:=sl) (i:=0) h.main (by simpa using hgo)
 have hdo:Deaf (t++MemOp.ofEvents 0 g.frame.fn g.frame.place es) 0=deafBehind d0 es:=by rw[Deaf_own,h.deaf]
 generalize MemOp.ofEvents 0 g.frame.fn g.frame.place es=u at*
 obtain⟨sn,rc,tm,hc⟩:=h.sy.chan
 have tq:w'.heap[E.Ch]?=some (.chan 0 #[] false sn rc tm):=by rw[vu];exact hc
 have dX:∀k,∀op∈u,op.g≠k+1:=fun k op aA=>by rw[KU op aA];omega
 have IC:∀b,¬s'.knows b→(∀j,¬(K j).knows b)→∀j,¬(fQ K 0 s' j).knows b:=fun b h1 h2 j=>by
  by_cases e:j=0
  ·subst e;rw[aD];exact h1
  rw[aH _ _ e];exact h2 j
 obtain⟨cl',EA,jz⟩:∃cl',zq cl cl'∧ajw E (fQ K 0 s') ((gs.map (woken E.P g g' w')).setIfInBounds 0 g') (t++u) D cl':=by
  have jz:=h.sy.EO
  match cl,jz with
  |none,jz=>exact⟨none,.same _,jz⟩
  |some (ic,c,n),⟨h1,h2,h3,⟨gc,Fe,p8⟩,h5⟩=>
   obtain⟨c',n',hw,avK,_,hdc⟩:=CK.tries (ic:=ic) p8 g g' w'
   refine⟨some (ic,c',n'),hw,h1,h2,by rw[gZ _ _ (dX ic),hdc];exact h3,⟨_,gu (by omega) Fe,by rw[aH _ _ (by omega)];exact avK⟩,fun⟨tr,e⟩=>?_⟩
   subst e
   cases hw with
   |same=>
    obtain⟨q,a1,a2,a3,a4⟩:=h5 ⟨tr,rfl⟩
    have hq:=lt_of_act? a1
    exact⟨q,by rw[act?_old hq];exact a1,by rw[g?_old hq];exact a2,(heard_old hq).2 a3,fun i r hi hcu=>let ⟨p,hp,XF⟩:=a4 i r hi hcu;⟨p,RelBy.other hp (dX i),XF⟩⟩
 refine⟨_,u,cl',bV,⟨⟨oK,by simp[h.base.size],fun k r hk=>?_,fun k hk b hb=>?_,fun op aA=>?_,⟨QA.1.trans h.base.same.1,QA.2.trans h.base.same.2⟩⟩,
  ⟨IC _ bY h.sy.kW,IC _ oU h.sy.kC,h.sy.lW,h.sy.lC,h.sy.ne,fun a=>(h.sy.norel a).app fun op aA=>iH op aA a,fun j hj p x hx hb hk=>?_,?_,nT cl' EA,QO,⟨sn,rc,tm,tq⟩,fun a b c hx=>h.sy.bal a b c (by rw[←vu];exact hx),jz⟩,?_,hdo⟩,by cases EA<;>rfl⟩
 ·obtain⟨x,hx,fB⟩:=h.base.ok k r hk
  rw[aH _ _ (by omega)]
  have aau:=fB.other (dX k)
  by_cases SC:r= .closer
  ·subst SC;exact⟨_,gu (by omega) hx,trivial⟩
  exact⟨x,by rw[gu (by omega) hx,fB.woken SC fun _=>⟨sn,rc,tm,tq⟩],aau⟩
 ·rw[Array.size_setIfInBounds,Array.size_map] at hk
  have:=h.base.size
  rw[aH _ _ (by omega)] at hb
  exact h.base.far k hk b hb
 ·rw[Array.size_setIfInBounds,Array.size_map]
  rcases Array.mem_append.1 aA with h'|h'
  ·exact h.base.ops op h'
  rw[KU op h',h.base.size];omega
 ·rcases bG hx with ⟨_,lU⟩| ⟨_,op,Sx,_,x5⟩
  ·exact(h.sy.plain j hj p x lU hb hk).app u
  exact absurd hk (lh op Sx x x5 hb).1
 ·have Ou:=h.sy.said
  match cl,cl',EA,Ou,lh with
  |none,_,.same _,Ou,_=>
   intro p x hx hb hk
   rcases bG hx with ⟨_,lU⟩| ⟨hp,op,Sx,aA,x5⟩
   ·exact(Ou p x lU hb hk).app u
   exact Cn KU hp aA
  |some (ic,c,n),_,.same _,Ou,lh=>
   intro he p x hx hb hk
   rcases bG hx with ⟨_,lU⟩| ⟨_,op,Sx,_,x5⟩
   ·exact(Ou he p x lU hb hk).app u
   exact absurd ((lh op Sx x x5 (.inl hb)).2 hk) (by simp)
  |_,_,.up ic,_,_=>exact fun he=>he.elim
 have:=h.base.size
 rw[Array.getElem?_setIfInBounds_self_of_lt (by simp;omega)]
theorem Inv.HZ(h:Inv E L K gs w t D pend cl g d0)(hw:w'.heap[E.Wg]?=w.heap[E.Wg]?):∀cl',zq cl cl'→∃st sm,WgAt E.ty E.Wg w' st sm∧Md E.max (fD ar.cnt D+pend) (fD ar.c4 D) (fD ar.c3 D) (fD ar.c2 D) (cl'.map (·.2.1)) st sm:=by
 intro cl' EA
 obtain⟨st,sm,ha,hm⟩:=h.sy.cells
 exact⟨st,sm,by unfold WgAt;rw[hw];exact ha,hm.aqY EA⟩
def TM(E:dY ι)(L:Nat→Option Obj)(Q:Machine→Outcome→World→Trace→Prop)(pend:Nat)(b:Bool)(os:List ι)(d0:Nat)(g:Goroutine)(s:St):Prop:=
 TC E L Q pend b os d0 g s∧(b=true→os=[]→∀pc,TL E.P (jD pc) L (Io E pc) Q g s)
theorem TC.mono{b:Bool}{os:List ι}(hl:s.le s')(h:TC E L Q pend b os d0 g s):TC E L Q pend b os d0 g s':=
 fun K gs w t D cl sl hb hI ho hle=>h K gs w t D cl sl hb hI ho (hl.trans hle)
theorem fA(b:Bool)(os:List ι)(hb:b=true→pend=0):Closed E.P true (TM E L Q pend b os 0) where
 step:=fun g s hs h=>by
  have hL:b=true→os=[]→∀pc,TL E.P (jD pc) L (Io E pc) Q g s:=fun e ho pc=>
   (JJ (Rg pc) (Hv E pc) Q).step g s hs fun w ha=>let ⟨g',w',es,s',h1,h2,h3,h4⟩:=h w ha;⟨g',w',es,s',h1,h2,h3,h4.2 e ho pc⟩
  refine⟨xa hs (fun K gs w t D cl sl m iV hI ho hK hm=>?_) fun e=>⟨hb e,rfl,fun ho pc=>hL e ho pc⟩,hL⟩
  subst hK
  obtain⟨g',w',es,s',hgo,_,ht,hT,_⟩:=h w (hI.base.fit.jR 0)
  obtain⟨k1,k2,k3,k4,k5,k6⟩:=hI.sy.AB ht g.frame.fn g.frame.place
  obtain⟨lv,u,cl',hr,ze,UG⟩:=hI.go0 (sl:=sl) hgo ⟨ht.os,ht.output⟩ k1 k2 k4 (hI.base.fit.own ht _ _) (fun op aA x hx sg=>absurd sg (k5 op aA x hx)) k6 (hI.HZ k3) hI.sy.Cc
  rw[ht.deaf] at ze
  exact Ends.next (hm.trans hr) (hT _ lv w' _ D cl' sl (UG.trans iV) ze ho (by rw[aD];exact St.le_refl _))
 mono:=fun g s s' hl h=>⟨h.1.mono hl,fun e ho pc=>(h.2 e ho pc).mono hl⟩
theorem Md.opened{mx a b c:Nat}{o:Option CK}(h:Md mx n a b c o st sm)(ho:o=none):st=(n:Int)*KK∧sm=0:=by
 cases h with
 |start=>exact⟨rfl,rfl⟩
 |_=>cases ho
theorem E3{b:Bool}{os:List ι}{d':Nat}(hs:g.status= .running)(hb:b=false)
 (h:∀w st sm,WgAt E.ty E.Wg w st sm→(b=false→st=((os.length+pend:Nat):Int)*KK∧sm=0)→os.length+pend≤E.max→∃w',stepG E.P true g w= .go g' w' es∧eQ E w w'∧WgAt E.ty E.Wg w' (((os.length+mh:Nat):Int)*KK) 0)
 (za:∀e∈es,iR E e)(hd:deafBehind d0 es=d')(hp:os.length+pend≤E.max→os.length+mh≤E.max)(hT:TC E L Q mh b os d' g' s):TC E L Q pend b os d0 g s:=by
 subst hb
 refine xa hs (fun K gs w t D cl sl m iV hI ho hK hm=>?_) fun e=>(by cases e)
 subst hK
 have hcn:cl=none:=by cases cl<;>simp_all
 subst hcn
 have jz:=hI.sy.EO
 have avy:∀D:List (ar ι),(∀r∈D,r.early)→fD ar.cnt D=(kM D).length∧fD ar.c4 D=0∧fD ar.c3 D=0∧fD ar.c2 D=0:=by
  intro D
  induction D with
  |nil=>intro _;exact⟨rfl,rfl,rfl,rfl⟩
  |cons r D ih=>
   intro hr
   obtain⟨i1,i4,i3,i2⟩:=ih fun x hx=>hr x (by simp[hx])
   have:=hr r (by simp)
   simp only[fD,List.map_cons,List.sum_cons,kM,List.filterMap_cons] at*
   cases r<;>first|exact this.elim| (simp[ar.cnt,ar.c4,ar.c3,ar.c2,ar.WQ,i1,i4,i3,i2];try omega)
 obtain⟨c1,c4,c3,c2⟩:=avy D jz
 rw[ho] at c1
 obtain⟨st,sm,ha,nn⟩:=hI.sy.cells
 have Jl:=hI.sy.Cc
 rw[c1] at Jl
 have bU:st=((os.length+pend:Nat):Int)*KK∧sm=0:=by
  rw[c1] at nn
  exact nn.opened rfl
 obtain⟨w',hgo,htu,uU⟩:=h w st sm ha (fun _=>bU) Jl
 have aCO:=iR.ops za 0 g.frame.fn g.frame.place
 obtain⟨lv,u,cl',hr,ze,UG⟩:=hI.go0 (sl:=sl) (s':=K 0) (mh:=mh) hgo htu.same (hI.sy.kW 0) (hI.sy.kC 0) (htu.block _ (Ne.symm hI.sy.ne)) (by rw[mf];exact hI.sy.A4 hI.base.fit (.inl rfl) htu za _ _)
  (fun op aA x hx _=>by rw[((aCO op aA).2.2 x hx).2];exact⟨by simp,by simp⟩) (fun op aA=>(aCO op aA).2.1) (fun cl' hw=>by
   cases hw
   rw[c1,c4,c3,c2]
   exact⟨_,_,uU,.start⟩) (by rw[c1];exact hp Jl)
 rw[hd] at ze
 exact Ends.next (hm.trans hr) (hT _ lv w' _ D cl' sl (UG.trans iV) ze ho (by rw[aD];exact St.le_refl _))
end
section
variable {ι:Type} {E:dY ι} {L:Nat→Option Obj} {K:Nat→St} {gs:Array Goroutine} {w w':World} {t:Trace} {D:List (ar ι)} {pend d0:Nat} {cl:Ab} {sl:Option (Nat×Nat)}
 {Q:Machine→Outcome→World→Trace→Prop} {g g' child:Goroutine} {s iE:St} {es:Array Event}
theorem vy(f:ar ι→Nat)(D:List (ar ι))(r:ar ι):fD f (D++[r])=fD f D+f r:=by simp[fD]
theorem Inv.spawn(h:Inv E L K gs w t D pend none g 0)(hrw:(K 0).rw=[])(bU:stepG E.P true g w= .spawn g' child w #[])(hle:iE.le (K 0)){r:ar ι}{cl':Ab} 
 (hr:r.left=false)(fB:∀t',Deaf t' gs.size=0→n6 E t' gs.size iE child r)
 (hn:r.cnt+mh=pend)(h4:r.c4=0)(h3:r.c3=0)(h2:r.c2=0)
 (iV:(cl'=none∧r.early)∨(∃n,cl'=some (D.length,.kd,n)∧r= .closer∧CK.at E iE child n .kd)):
 ∃lv u,runT E.P (crowd gs w sl) 0=(.next (crowd lv w sl),u)∧Inv E L (fQ K gs.size iE) lv w (t++u) (D++[r]) mh cl' g' 0∧0 <gs.size:=by
 have u5:=h.base.size
 have bV:=runT_crowd_spawn (P:=E.P) (sl:=sl) (i:=0) h.main (by simpa using bU)
 have e0:MemOp.ofEvents 0 g.frame.fn g.frame.place #[]= #[]:=rfl
 rw[e0] at bV
 generalize hx:({g:=0,fn:=g.frame.fn,pos:=g.frame.place,act:= .go gs.size}:MemOp)=x at bV
 generalize hy:({g:=gs.size,fn:=child.frame.fn,pos:=g.frame.place,act:= .start}:MemOp)=y at bV
 have ex:x.g=0∧x.act= .go gs.size:=by rw[←hx];exact⟨rfl,rfl⟩
 have ey:y.g=gs.size∧y.act= .start:=by rw[←hy];exact⟨rfl,rfl⟩
 have eu:((#[]:Array MemOp).push x).push y= #[x,y]:=rfl
 rw[eu] at bV
 have hq:∀op∈ #[x,y],op.act.touch?=none:=by intro op aA;simp at aA;rcases aA with rfl|rfl<;>simp[ex.2,ey.2,MemAct.touch?]
 have QQ:∀op∈ #[x,y],∀m,op.act≠ .mark m:=by intro op aA;simp at aA;rcases aA with rfl|rfl<;>simp[ex.2,ey.2]
 have hg:∀op∈ #[x,y],op.g=0∨op.g=gs.size:=by intro op aA;simp at aA;rcases aA with rfl|rfl<;>simp[ex.1,ey.1]
 have Np:Deaf t gs.size=0:=ConcN.Deaf_absent fun i op ho e=>by have:=h.base.ops op (mem_of_getElem? ho);omega
 have zc:∀k,Deaf (t++ #[x,y]) k=Deaf t k:=fun k=>gp t k _ QQ
 have agx:∀p,Knows t 0 p→Knows (t++ #[x,y]) gs.size p:=fun p hp=>ConcN.fork_knows ex ey h.deaf Np hp
 have oK:=h.base.fit.quiet (u:= #[x,y]) (w':=w) E.Ch h.sy.kC h.sy.lC (Nat.le_refl _) (fun _ _ _=>rfl) hq
 have hs0:iE.rw=[]:=by
  obtain⟨R,hR,_⟩:=hle
  rw[hrw] at hR
  have:=List.append_eq_nil_iff.1 (List.nil_perm.1 hR)
  exact this.1
 have AP:∀b o,iE.ro b=some o→(K 0).ro b=some o:=fun b o hb=>by
  obtain⟨R,hR,h2⟩:=hle
  rw[hrw] at hR
  have:=List.append_eq_nil_iff.1 (List.nil_perm.1 hR)
  rcases h2 b o hb with h3|h3
  ·exact h3
  rw[this.2] at h3;cases h3
 have agy:=oK.share (i:=0) (n:=gs.size) (by omega) iE hs0 AP fun b hb p z hz hzb hzw=>by
  rcases bG hz with ⟨_,Ew⟩| ⟨_,op,hm,_,hzo⟩
  ·refine agx p (h.base.fit.ri 0 b ?_ p z Ew hzb hzw)
   cases mH:iE.ro b with
   |none=>exact absurd mH hb
   |some o=>rw[AP b o mH];simp
  rw[hq op hm] at hzo;cases hzo
 have IC:∀b,(∀j,¬(K j).knows b)→∀j,¬(fQ K gs.size iE j).knows b:=fun b hb j hk=>by
  by_cases e:j=gs.size
  ·subst e;rw[aD] at hk;exact hb 0 (hle.knows hk)
  rw[aH _ _ e] at hk;exact hb j hk
 have jz:=h.sy.EO
 have oJ:∀ {k z},(D++[r])[k]?=some z→(k <D.length∧D[k]?=some z)∨(k=D.length∧z=r):=fun {k z} hk=>by
  rcases Nat.lt_trichotomy k D.length with cL|e|hgt
  ·rw[List.getElem?_append_left cL] at hk;exact .inl ⟨cL,hk⟩
  ·subst e;rw[List.getElem?_append_right (Nat.le_refl _)] at hk;simp at hk;exact .inr ⟨rfl,hk.symm⟩
  rw[List.getElem?_eq_none (by simp;omega)] at hk;cases hk
 have hgs:∀k,k≠0→k <gs.size→((gs.setIfInBounds 0 g').push child)[k]?=gs[k]?:=fun k h0 cL=>by
  rw[Array.getElem?_push_lt (by simpa using cL),←Array.getElem?_eq_getElem,Array.getElem?_setIfInBounds_ne (Ne.symm h0)]
 have hgn:((gs.setIfInBounds 0 g').push child)[gs.size]?=some child:=by
  rw[Array.getElem?_push,if_pos (by simp)]
 refine⟨_,_,bV,⟨⟨agy,by simp[u5],fun k z hk=>?_,fun k hk b hb=>?_,fun op aA=>?_,h.base.same⟩,
  ⟨IC _ h.sy.kW,IC _ h.sy.kC,h.sy.lW,h.sy.lC,h.sy.ne,fun a=>(h.sy.norel a).app fun op aA=>QQ op aA _,fun j hj p z hz hzb hzk=>?_,?_,?_,?_,h.sy.chan,h.sy.bal,?_⟩,?_,by rw[zc];exact h.deaf⟩,by omega⟩
 ·rcases oJ hk with ⟨cL,jP⟩| ⟨rfl,rfl⟩
  ·obtain⟨q,hqk,aRw⟩:=h.base.ok k z jP
   exact⟨q,by rw[hgs _ (by omega) (by omega)];exact hqk,by rw[aH _ _ (by omega)];exact aRw.other fun op aA=>by rcases hg op aA with e|e<;>rw[e]<;>omega⟩
  refine⟨child,by rw[←u5];exact hgn,?_⟩
  rw[←u5,aD]
  exact fB _ (by rw[zc];exact Np)
 ·rw[Array.size_push,Array.size_setIfInBounds] at hk
  rw[aH _ _ (by omega)] at hb
  exact h.base.far k (by omega) b hb
 ·rw[Array.size_push,Array.size_setIfInBounds]
  rcases Array.mem_append.1 aA with h'|h'
  ·have:=h.base.ops op h';omega
  rcases hg op h' with e|e<;>rw[e]<;>omega
 ·rcases bG hz with ⟨_,Ew⟩| ⟨_,op,hm,_,hzo⟩
  ·rcases hj with rfl| ⟨k,q,rfl,hk,hl⟩
   ·exact(h.sy.plain 0 (.inl rfl) p z Ew hzb hzk).app _
   rcases oJ hk with ⟨_,jP⟩| ⟨rfl,rfl⟩
   ·exact(h.sy.plain (k+1) (.inr ⟨k,q,rfl,jP,hl⟩) p z Ew hzb hzk).app _
   rw[←u5];exact agx p (h.sy.plain 0 (.inl rfl) p z Ew hzb hzk)
  rw[hq op hm] at hzo;cases hzo
 ·have Ou:=h.sy.said
  rcases iV with ⟨rfl,_⟩| ⟨n,rfl,_,_⟩
  ·intro p z hz hzb hzk
   rcases bG hz with ⟨_,Ew⟩| ⟨_,op,hm,_,hzo⟩
   ·exact(Ou p z Ew hzb hzk).app _
   rw[hq op hm] at hzo;cases hzo
  intro _ p z hz hzb hzk
  rcases bG hz with ⟨_,Ew⟩| ⟨_,op,hm,_,hzo⟩
  ·rw[←u5];exact agx p (Ou p z Ew hzb hzk)
  rw[hq op hm] at hzo;cases hzo
 ·obtain⟨st,sm,ha,nn⟩:=h.sy.cells
  refine⟨st,sm,ha,?_⟩
  rw[vy,vy,vy,vy,h4,h3,h2,show fD ar.cnt D+r.cnt+mh=fD ar.cnt D+pend by omega]
  rcases iV with ⟨rfl,_⟩| ⟨n,rfl,_,_⟩
  ·exact nn
  have z:∀(f:ar ι→Nat),(∀r:ar ι,r.early→f r=0)→fD f D=0:=fun f hf=>by
   unfold fD
   rw[List.sum_eq_zero_iff_forall_eq_nat]
   intro a uU
   obtain⟨q,Fa,rfl⟩:=List.mem_map.1 uU
   exact hf q (jz q Fa)
  have z4:=z ar.c4 fun r hr=>by cases r<;>first|rfl|exact hr.elim
  have z3:=z ar.c3 fun r hr=>by cases r<;>first|rfl|exact hr.elim
  have z2:=z ar.c2 fun r hr=>by cases r<;>first|rfl|exact hr.elim
  obtain⟨rfl,rfl⟩:=nn.opened rfl
  rw[z4,z3,z2]
  exact .kd
 ·rw[vy];have:=h.sy.Cc;omega
 ·rcases iV with ⟨rfl,Sr⟩| ⟨n,rfl,rfl,p8⟩
  ·intro z hz
   rcases List.mem_append.1 hz with h'|h'
   ·exact jz z h'
   simp at h';subst h';exact Sr
  refine⟨by simp,fun k hk=>?_,by rw[zc,←u5];exact Np,⟨child,by rw[←u5];exact hgn,by rw[←u5,aD];exact p8⟩,fun⟨_,e⟩=>(by cases e)⟩
  rcases oJ hk with ⟨_,jP⟩| ⟨e,_⟩
  ·exact(jz _ (List.mem_of_getElem? jP)).elim
  exact e
 rw[Array.getElem?_push_lt (by simp;omega),←Array.getElem?_eq_getElem,Array.getElem?_setIfInBounds_self_of_lt (by omega)]
theorem JM{os:List ι}{o:ι}(hs:g.status= .running)(hrw:s.rw=[])(bU:∀w,aR s w→stepG E.P true g w= .spawn g' child w #[])(hw:eS E.P false (E.JE o) child s)
 (hT:TC E L Q 0 false (os++[o]) 0 g' s):TC E L Q 1 false os 0 g s:=by
 refine xa hs (fun K gs w t D cl sl m iV hI ho hK hm=>?_) fun e=>(by cases e)
 subst hK
 have hcn:cl=none:=by cases cl<;>simp_all
 subst hcn
 obtain⟨tr,iE,hle,htr⟩:=hw
 obtain⟨lv,u,hr,ze,h0⟩:=hI.spawn (sl:=sl) (r:= .work o tr) (cl':=none) (mh:=0) hrw (bU w (hI.base.fit.jR 0)) hle rfl (fun t' hd=>⟨hd,htr⟩) rfl rfl rfl rfl (.inl ⟨rfl,trivial⟩)
 exact Ends.next (hm.trans hr) (hT _ lv w _ _ none sl rfl ze (by simp[kM,List.filterMap_append,ar.WQ] at ho ⊢;exact ho) (by rw[aH _ _ (by omega)];exact St.le_refl _))
theorem JN{os:List ι}(hs:g.status= .running)(hrw:s.rw=[])(bU:∀w,aR s w→stepG E.P true g w= .spawn g' child w #[])(hw:E.closes s child)
 (hT:TC E L Q 0 true os 0 g' s):TC E L Q 0 false os 0 g s:=by
 refine xa hs (fun K gs w t D cl sl m iV hI ho hK hm=>?_) fun e=>(by cases e)
 subst hK
 have hcn:cl=none:=by cases cl<;>simp_all
 subst hcn
 obtain⟨n,hn⟩:=hw
 obtain⟨lv,u,hr,ze,h0⟩:=hI.spawn (sl:=sl) (iE:=K 0) (r:= .closer) (cl':=some (D.length,.kd,n)) (mh:=0) hrw (bU w (hI.base.fit.jR 0)) (St.le_refl _) rfl (fun t' hd=>trivial) rfl rfl rfl rfl (.inr ⟨n,rfl,rfl,hn⟩)
 exact Ends.next (hm.trans hr) (hT _ lv w _ _ _ sl rfl ze (by rw[kM,List.filterMap_append];simp only[List.filterMap_cons,ar.WQ,List.filterMap_nil,List.append_nil];exact ho) (by rw[aH _ _ (by omega)];exact St.le_refl _))
end
section
variable {ι:Type} {E:dY ι} {Q:Machine→Outcome→World→Trace→Prop} {g:Goroutine} {s s':St}
theorem O0{L:Nat→Option Obj}(hs:g.status= .running)(dX:E.Wg≠E.Ch)
 (hW:(E.Wg,wgBlock E.ty 0 0)∈s.rw)(hC:∃tm,(E.Ch,Obj.chan 0 #[] false 0 0 tm)∈s.rw)
 (hle:s'.le s)(hkW:¬s'.knows E.Wg)(hkC:¬s'.knows E.Ch)(kQ:∀b,s'.jo b→L b=none)
 (hL:∀b o,L b=some o→s.has b o∧b≠E.Wg∧b≠E.Ch)
 (hT:TC E L Q 0 false [] 0 g s'):TL E.P eO (fun _=>none) (Calm E.os E.out) Q g s:=by
 intro K gs w t q sl hLv h0 aR4 hd ⟨auy,afD⟩
 have hLv:=hLv.le aR4
 have hs0:(fQ K 0 s) 0=s:=aD _ _ _
 have pR:=hLv.fit.jR 0
 rw[hs0] at pR
 obtain⟨tm,hC⟩:=hC
 have hWw:=pR.rw _ _ hW
 have hCw:=pR.rw _ _ hC
 have hex:∀i,i <q.length→∃d,∃x,gs[i+1]?=some x∧QuitsD E.P (q.getD i 0) d x∧Deaf t (i+1)=d∧eO t (i+1):=fun i hi=>by
  obtain⟨x,d,h1,h2,h3,h4⟩:=hLv.ok i _ (List.getElem?_eq_getElem hi)
  exact⟨d,x,h1,by rw[List.getD_eq_getElem?_getD,List.getElem?_eq_getElem hi];exact h2,h3,h4⟩
 let D:List (ar ι):=(List.range q.length).map fun i=>ar.leave (q.getD i 0) (Deaf t (i+1)) false
 have hD:∀i r,D[i]?=some r→i <q.length∧r=ar.leave (q.getD i 0) (Deaf t (i+1)) false:=fun i r hi=>by
  simp only[D,List.getElem?_map] at hi
  obtain⟨j,hj,rfl⟩:=Option.map_eq_some_iff.1 hi
  obtain⟨cL,rfl⟩:=List.getElem?_eq_some_iff.1 hj
  simp only[List.length_range] at cL
  simp only[List.getElem_range]
  exact⟨cL,trivial⟩
 have jv:∀r∈D,∃a b,r=ar.leave a b false:=fun r hr=>by
  obtain⟨i,hi⟩:=List.getElem?_of_mem hr
  exact⟨_,_,(hD i r hi).2⟩
 have hzero:∀f:ar ι→Nat,(∀a b,f (.leave a b false)=0)→fD f D=0:=fun f hf=>by
  unfold fD
  rw[List.sum_eq_zero_iff_forall_eq_nat]
  intro x hx
  obtain⟨r,hr,rfl⟩:=List.mem_map.1 hx
  obtain⟨a,b,rfl⟩:=jv r hr
  exact hf a b
 let K':Nat→St:=fun j=>if j=0 then s' else ⟨fun _=>none,[]⟩
 have X9:K' 0=s':=by simp[K']
 have hKn:∀j,j≠0→K' j=⟨fun _=>none,[]⟩:=fun j hj=>by simp[K',hj]
 have none:∀j b,j≠0→¬(K' j).knows b:=fun j b hj hk=>by
  rw[hKn j hj] at hk
  rcases hk with hk| ⟨o,ho⟩
  ·exact hk rfl
  cases ho
 have Hb:Fit (fun _=>Option.none) K' w t:=hLv.fit.le fun j=>by
  by_cases e:j=0
  ·subst e;rw[X9,hs0];exact hle
  rw[hKn j e];exact⟨(fQ K 0 s j).rw,by simp,fun b o hb=>(by cases hb)⟩
 have agy:Fit L K' w t:=by
  refine⟨fun b o hl=>pR.has (hL b o hl).1,fun i b ho=>?_,Hb.jR,Hb.sep,Hb.perm,Hb.ri,Hb.old,Hb.clean,fun p x b hx hk hb=>⟨?_,(Hb.sync p x b hx hk hb).2⟩⟩
  ·by_cases e:i=0
   ·subst e;rw[X9] at ho;exact kQ b ho
   exact absurd (.inr ho) (none i b e)
  cases hl:L b with
  |none=>rfl
  |some o=>
   have:=(hLv.fit.sync p x b hx hk hb).2 0
   rw[hs0] at this
   rcases(hL b o hl).1 with h1|h1
   ·exact absurd (.inl (by rw[h1];simp)) this
   exact absurd (.inr ⟨o,h1⟩) this
 have hLb:∀b,(b=E.Wg∨b=E.Ch)→L b=Option.none:=fun b hb=>by
  cases hl:L b with
  |none=>rfl
  |some o=>
   rcases hb with e|e
   ·exact absurd e (hL b o hl).2.1
   exact absurd e (hL b o hl).2.2
 have hKk:∀b,¬s'.knows b→∀j,¬(K' j).knows b:=fun b hb j=>by
  by_cases e:j=0
  ·subst e;rw[X9];exact hb
  exact none j b e
 have ape:∀p x,touchAt t p=some x→blk x.loc=some E.Wg→Knows t 0 p:=fun p x hx hb=>hLv.fit.perm 0 E.Wg (by rw[hs0];exact⟨_,hW⟩) p x hx hb
 have aA0:∀p x,touchAt t p=some x→E.At x→Knows t 0 p:=fun p x hx hb=>hb.elim (ape p x hx) fun hb=>hLv.fit.perm 0 E.Ch (by rw[hs0];exact⟨_,hC⟩) p x hx hb
 refine hT K' gs w t D Option.none sl rfl ⟨⟨agy,by simp[D,hLv.size],fun i r hi=>?_,fun i hi b=>?_,hLv.ops,afD⟩,
  ⟨hKk _ hkW,hKk _ hkC,hLb _ (.inl rfl),hLb _ (.inr rfl),dX,auy,fun j hj p x hx hb _=>?_,fun p x hx hb _=>ape p x hx hb,⟨0,0,hWw,?_⟩,?_,⟨0,0,tm,hCw⟩,fun a b c hx=>?_,fun r hr=>?_⟩,h0,hd⟩ ?_ (by rw[X9];exact St.le_refl _)
 ·obtain⟨cL,rfl⟩:=hD i r hi
  obtain⟨d,x,h1,h2,h3,h4⟩:=hex i cL
  exact⟨x,h1,hKn _ (by omega),by rw[h3];exact h2,rfl,(fun e=>(by cases e)),fun _=>h4⟩
 ·exact none i b (by have:=hLv.size;omega)
 ·rcases hj with rfl| ⟨k,r,rfl,hk,hl⟩
  ·exact aA0 p x hx hb
  obtain⟨_,rfl⟩:=hD k r hk;cases hl
 ·rw[hzero ar.cnt fun _ _=>rfl,hzero ar.c4 fun _ _=>rfl,hzero ar.c3 fun _ _=>rfl,hzero ar.c2 fun _ _=>rfl]
  have:=Md.start (mx:=E.max) (n:=0)
  simpa using this
 ·rw[hzero ar.cnt fun _ _=>rfl];omega
 ·rw[hCw] at hx
  simp only[Option.some.injEq,Obj.chan.injEq] at hx
  omega
 ·obtain⟨a,b,rfl⟩:=jv r hr;rfl
 unfold kM
 rw[List.filterMap_eq_nil_iff]
 intro r hr
 obtain⟨a,b,rfl⟩:=jv r hr;rfl
end
theorem DF(os:Os)(out:Array (Nat×ByteArray)):YQ (Calm os out) where
 grow:=fun _ _ _ _ h hu=>⟨fun a=>(h.1 a).app fun op aA=>hu op aA a,h.2⟩
 drawn:=fun _ _ _ _ h=>h
 le:=fun _ _ _ _ h _=>h
 own:=fun _ _ _ _ _ _ _ h ht hu=>⟨fun a=>(h.1 a).app fun op aA=>hu op aA a,ht.os.trans h.2.1,ht.output.trans h.2.2⟩
def T0(P:Program)(os:Os)(out:Array (Nat×ByteArray))(Post:Value→World→Prop):Goroutine→St→Prop:=TL P eO (fun _=>none) (Calm os out) (Good P Post)
theorem sN(P:Program)(os:Os)(out:Array (Nat×ByteArray))(Post:Value→World→Prop):Closed P true (T0 P os out Post):=JJ DU (DF os out) _
theorem Zf{os:Os}{out:Array (Nat×ByteArray)}{Post:Value→World→Prop}{s:St}(hs:g.status= .running)
 (bU:∀w,aR s w→w.os=os→w.output=out→∃v w' es s',stepG P true g w= .ended (.done v) w' es∧Post v w'∧Trans s w s' w' es):T0 P os out Post g s:=by
 refine Me DU (DF os out) hs fun K gs w t q sl m hL h0 hK hd hi hm hmg=>?_
 subst hK
 obtain⟨v,w',es,s',hgo,hp,ht⟩:=bU w (hL.fit.jR 0) hi.2.1 hi.2.2
 have hr:=ConcN.runT_crowd_ended (P:=P) (sl:=sl) (i:=0) h0 (by simpa using hgo)
 have oK:=hL.fit.own ht g.frame.fn g.frame.place
 generalize hu:MemOp.ofEvents 0 g.frame.fn g.frame.place es=u at hr oK
 have KU:∀op∈u,op.g=0:=by rw[←hu];exact fun op aA=>Go.ConcR.g_of_ofEvents op aA
 refine⟨0,m,.done v,w',t++u,by simp[runNT,hm,hr],rfl,by simp[step,hm,hr],v,rfl,hp,oK.clean,fun i k hk dX hc=>?_,⟨fun x hx=>?_,by rw[hmg.2];rfl⟩,fun i x hx dX=>?_⟩
 ·obtain⟨op,ho,bfE⟩:=Option.map_eq_some_iff.1 hk
  cases k with
  |zero=>exact absurd rfl dX
  |succ k=>
   have cL:op.g <gs.size:=by
    rcases Array.mem_append.1 (mem_of_getElem? ho) with h'|h'
    ·exact hL.ops op h'
    rw[KU op h',hL.size];omega
   have hkq:k <q.length:=by have:=hL.size;omega
   obtain⟨_,_,_,_,_,bW⟩:=hL.ok k _ (List.getElem?_eq_getElem hkq)
   exact(bW.other fun op aA=>by rw[KU op aA];omega) i hk hc
 ·rw[hmg.1] at hx
  obtain⟨j,hj⟩:=List.getElem?_of_mem hx
  rw[List.getElem?_drop,Array.getElem?_toList] at hj
  have hjq:j <q.length:=by have:=lt_size hj;have:=hL.size;omega
  obtain⟨y,d,hy,hq,_⟩:=hL.ok j _ (List.getElem?_eq_getElem hjq)
  rw[Nat.add_comm] at hj
  rw[hj] at hy
  obtain rfl:=Option.some.inj hy
  exact⟨_,hq.leaves⟩
 rw[hmg.1] at hx
 cases i with
 |zero=>exact absurd rfl dX
 |succ j=>
  have hjq:j <q.length:=by have:=lt_size hx;have:=hL.size;omega
  obtain⟨y,d,hy,hq,hdd,_⟩:=hL.ok j _ (List.getElem?_eq_getElem hjq)
  rw[hx] at hy
  obtain rfl:=Option.some.inj hy
  refine⟨q[j],?_⟩
  have e:(t++u).deaf (j+1) (t++u).size=d:=by
   have:=gZ t u (g:=j+1) fun op aA=>by rw[KU op aA];omega
   unfold Deaf at this hdd
   rw[this];exact hdd
  rw[e]
  exact hq.hears m.world
theorem acP{Post:Value→World→Prop}{s:St}{w:World}(ha:aR s w)(h:T0 P w.os w.output Post g s):Ends P (Good P Post) (solo g w) #[]:=by
 rw[solo_eq_crowd]
 have Ix:∀p x,touchAt #[] p=some x→False:=fun p x hx=>by simp[touchAt,Trace.act?] at hx
 have hn:∀i,i≠0→∀b,¬((if i=0 then s else ⟨fun _=>none,[]⟩:St)).knows b:=fun i hi b hk=>by
  rw[if_neg hi] at hk
  rcases hk with hk| ⟨o,ho⟩
  ·exact hk rfl
  cases ho
 refine h (fun j=>if j=0 then s else ⟨fun _=>none,[]⟩) #[g] w #[] [] none ⟨⟨(fun _ _ e=>(by cases e)),fun _ _ _=>rfl,fun i=>?_,fun i j b IB ho hk=>?_,fun _ _ _ p x hx=>(Ix p x hx).elim,fun _ _ _ p x hx=>(Ix p x hx).elim,
  fun p x _ hx=>(Ix p x hx).elim,(fun said ⟨i,j,_,⟨a,b,h1,_⟩,_⟩=>by simp[Trace.act?] at h1),fun p x _ hx=>(Ix p x hx).elim⟩,rfl,fun i n hi=>by simp at hi,fun i b hi hk=>hn i hi b hk,by simp⟩ rfl (by simp only[if_true];exact St.le_refl _) rfl ⟨fun a i=>by simp[Trace.act?],rfl,rfl⟩
 ·by_cases e:i=0
  ·simp only[e,if_true];exact ha
  simp only[if_neg e];exact⟨(fun _ _ e=>(by cases e)),(fun _ _ e=>(by cases e)),by simp,(fun _ _ e=>(by cases e))⟩
 by_cases e:j=0
 ·exact hn i (fun e'=>IB (e'.trans e.symm)) b (.inr ho)
 exact hn j e b hk
section
variable {ι:Type} {E:dY ι} {L:Nat→Option Obj} {pend d0:Nat} {Q:Machine→Outcome→World→Trace→Prop} {g g':Goroutine} {s:St} {os:List ι}
theorem Wb(hs:g.status= .running)(bU:∀w,E.live w→stepG E.P true g w= .go g' w #[])(hT:TC E L Q pend false os d0 g' s):TC E L Q pend false os d0 g s:=
 E3 (es:= #[]) (mh:=pend) hs rfl (fun w st sm ha hb _=>⟨w,bU w ⟨st,sm,ha⟩,eQ.refl w,by obtain⟨rfl,rfl⟩:=hb rfl;exact ha⟩) (by simp) rfl id hT
theorem akK(hs:g.status= .running)(bU:∀w,E.live w→stepG E.P true g w= .go g' w #[said (.read (smA E.Wg))])(hT:TC E L Q pend false os d0 g' s):TC E L Q pend false os d0 g s:=by
 refine xa hs (fun K gs w t D cl sl m iV hI ho hK hm=>?_) fun e=>(by cases e)
 subst hK
 have hcn:cl=none:=by cases cl<;>simp_all
 subst hcn
 obtain⟨st,sm,ha,_⟩:=hI.sy.cells
 have hgo:=bU w ⟨st,sm,ha⟩
 have e1:MemOp.ofEvents 0 g.frame.fn g.frame.place #[said (.read (smA E.Wg))]= #[{g:=0,fn:=g.frame.fn,pos:=g.frame.place,act:= .mark (.read (smA E.Wg))}]:=by rw[ofEvents_eq];simp[said,Go.ConcR.ofEvent_mk]
 have auq:∀op∈MemOp.ofEvents 0 g.frame.fn g.frame.place #[said (.read (smA E.Wg))],op.g=0∧op.act= .mark (.read (smA E.Wg)):=by
  rw[e1];intro op aA;simp only[List.mem_toArray,List.mem_singleton] at aA;subst aA;exact⟨rfl,rfl⟩
 have htc:∀op∈MemOp.ofEvents 0 g.frame.fn g.frame.place #[said (.read (smA E.Wg))],∀x,op.act.touch?=some x→x=⟨.cell (smA E.Wg),false,.said⟩:=fun op aA x hx=>by
  rw[(auq op aA).2] at hx;simp only[MemAct.touch?,Option.some.injEq] at hx;exact hx.symm
 obtain⟨lv,u,cl',hr,ze,UG⟩:=hI.go0 (sl:=sl) (s':=K 0) (mh:=pend) hgo ⟨rfl,rfl⟩ (hI.sy.kW 0) (hI.sy.kC 0) rfl (by
  rw[mf]
  refine hI.base.fit.beside E.Wg 0 hI.sy.kW hI.sy.lW (lt_size ha) (Nat.le_refl _) (fun _ _ _=>rfl) (fun op aA=>(auq op aA).1) fun op aA x hx=>?_
  obtain rfl:=htc op aA x hx
  refine⟨rfl,fun sd p a uU hc=>?_⟩
  have hl:blk a.loc=some E.Wg:=by rw[hc.1];rfl
  rcases hc.2.2.2 with h3|h3|h3
  ·exact hI.sy.plain 0 (.inl rfl) p a uU (.inl hl) h3
  ·cases h3
  ·exact hI.sy.said p a uU hl h3.2.1)
  (fun op aA x hx _=>by obtain rfl:=htc op aA x hx;exact⟨by simp,fun _=>rfl⟩) (fun op aA a=>by rw[(auq op aA).2];simp) (hI.HZ rfl) hI.sy.Cc
 exact Ends.next (hm.trans hr) (hT _ lv w _ D cl' sl (UG.trans iV) ze ho (by rw[aD];exact St.le_refl _))
end
abbrev LV:=Option Value×Option Value
abbrev jF:LV:=(none,none)
def H2:LV→Nat→Option Value
 | (a,_),0=>a
 | (_,b),1=>b
 |_,_=>none
theorem RS(off:Nat):H2 jF off=none:=by
 match off with
 |0=>rfl
 |1=>rfl
 |_+2=>rfl
def NZ:LV→Nat→Value→LV
 | (_,b),0,v=>(some v,b)
 | (a,_),1,v=>(a,some v)
 |c,_,_=>c
inductive RH(α:Type) where
 |ok (a:α)
 |halt (h:Halt)
structure VO(α:Type) where
 r:RH α
 ws:List (Nat×Value)
 es:List Event
 bs:List Nat
def uZ(P:Program)(ty:TypeId):Sem α→LV→Option (VO α)
 | .pure a,_=>some ⟨.ok a,[],[],[]⟩
 | .load m a k,c=>match a.spot with
  |some _=>none
  |none=>match H2 c a.off with
   |some v=>match uZ P ty (k v) c with
    |some o=>some ⟨o.r,o.ws,⟨.cell a,false,m== .atomic⟩::o.es,a.block::o.bs⟩
    |none=>none
   |none=>none
 | .store m a v k,c=>match a.spot with
  |some _=>none
  |none=>bif single v then (match H2 c a.off with
   |some _=>match uZ P ty k (NZ c a.off v) with
    |some o=>some ⟨o.r,(a.off,v)::o.ws,⟨.cell a,true,m== .atomic⟩::o.es,a.block::o.bs⟩
    |none=>none
   |none=>none) else none
 | .shape r k,c=>match uZ P ty (k (some (ty,2))) c with
  |some o=>some ⟨o.r,o.ws,o.es,r::o.bs⟩
  |none=>none
 | .frozen a k,c=>match uZ P ty (k false) c with
  |some o=>some ⟨o.r,o.ws,o.es,a.block::o.bs⟩
  |none=>none
 | .program k,c=>uZ P ty (k P) c
 | .mark m k,c=>match uZ P ty k c with
  |some o=>some ⟨o.r,o.ws,⟨.mark m,false,true⟩::o.es,o.bs⟩
  |none=>none
 | .halt h,_=>some ⟨.halt h,[],[],[]⟩
 |_,_=>none
def mB(ty:TypeId)(W:Nat)(w:World)(c:LV):Prop:=∃a b,w.heap[W]?=some (.cells #[a,b] ty)∧(∀x,c.1=some x→a=x)∧∀x,c.2=some x→b=x
theorem mB.acZ{w:World}{c:LV}(h:mB ty W w c):∃a b,w.heap[W]?=some (.cells #[a,b] ty):=by
 obtain⟨a,b,h,_⟩:=h
 exact⟨a,b,h⟩
def MF(W:Nat)(w:World)(ws:List (Nat×Value)):World:=ws.foldl (fun w x=>w.setCell ⟨W,x.1,none⟩ x.2) w
def RH.to(w:World):RH α→Result α
 | .ok a=> .ok a w
 | .halt h=> .halt h w
theorem H0{w:World}{c:LV}(h:mB ty W w c){v:Value}(hv:H2 c off=some v):w.cell? ⟨W,off,none⟩=some v:=by
 obtain⟨p,q,h,h1,h2⟩:=h
 unfold H2 at hv
 split at hv<;>try (cases hv;done)
 ·rw[←h1 _ hv];simp[World.cell?,h]
 rw[←h2 _ hv];simp[World.cell?,h]
theorem aa9{w:World}{c:LV}(h:mB ty W w c){u v:Value}(hv:H2 c off=some u):mB ty W (w.setCell ⟨W,off,none⟩ v) (NZ c off v):=by
 obtain⟨p,q,h,h1,h2⟩:=h
 unfold H2 at hv
 split at hv<;>try (cases hv;done)
 ·exact⟨v,q,by simp[World.setCell,Array.getElem?_modify,h],by simp[NZ],fun x hx=>h2 x hx⟩
 exact⟨p,v,by simp[World.setCell,Array.getElem?_modify,h],fun x hx=>h1 x hx,by simp[NZ]⟩
theorem acD{w:World}{a b:Value}(h:w.heap[W]?=some (.cells #[a,b] ty)) (off:Nat) (s:Option Nat):w.frozen? ⟨W,off,s⟩=false:=by
 simp[World.frozen?,h]
theorem Ml(x:Sem α):∀ {c:LV} {o:VO α} {w:World} (es:Array Event),uZ P ty x c=some o→(∀b∈o.bs,b=W)→((c=jF∧o.bs=[])∨mB ty W w c)→x.runT P w es=(o.r.to (MF W w o.ws),es++o.es.toArray):=by
 induction x with
 |pure a=>intro c o w es h hb hc;simp only[uZ,Option.some.injEq] at h;subst h;simp[Sem.runT,RH.to,MF]
 |halt a=>intro c o w es h hb hc;simp only[uZ,Option.some.injEq] at h;subst h;simp[Sem.runT,RH.to,MF]
 |load m a k ih=>
  intro c o w es h hb hc
  simp only[uZ] at h
  split at h<;>try (cases h;done)
  rename_i hs
  split at h<;>try (cases h;done)
  rename_i v hv
  split at h<;>try (cases h;done)
  rename_i o1 h1
  simp only[Option.some.injEq] at h;subst h
  have e:a=⟨W,a.off,none⟩:=by
   have:=hb a.block (by simp)
   rcases a with ⟨x,y,z⟩
   simp only at hs this
   subst hs this;rfl
  have tq:mB ty W w c:=hc.elim (fun hh=>by rw[hh.1] at hv;rw[RS] at hv;cases hv) id
  have Hi:w.cell? a=some v:=by rw[e];exact H0 tq hv
  simp only[Sem.runT,Hi]
  rw[ih v _ h1 (fun b hm=>hb b (by simp[hm])) (.inr tq)]
  simp
 |store m a v k ih=>
  intro c o w es h hb hc
  simp only[uZ] at h
  split at h<;>try (cases h;done)
  rename_i hs
  cases hsg:single v with
  |false=>rw[hsg] at h;cases h
  |true=>
  rw[hsg] at h;simp only[cond_true] at h
  split at h<;>try (cases h;done)
  rename_i u hu
  split at h<;>try (cases h;done)
  rename_i o1 h1
  simp only[Option.some.injEq] at h;subst h
  have e:a=⟨W,a.off,none⟩:=by
   have:=hb a.block (by simp)
   rcases a with ⟨x,y,z⟩
   simp only at hs this
   subst hs this;rfl
  have tq:mB ty W w c:=hc.elim (fun hh=>by rw[hh.1] at hu;rw[RS] at hu;cases hu) id
  have Hi:w.cell? a=some u:=by rw[e];exact H0 tq hu
  have hfz:w.frozen? a=false:=by
   obtain⟨p,q,XF⟩:=tq.acZ
   rw[e];exact acD XF _ _
  have pf:=aa9 (v:=v) tq hu
  have key:(Sem.store m a v k).runT P w es=k.runT P (w.setCell a v) (es.push ⟨.cell a,true,m== .atomic⟩):=by
   cases v<;>first| (cases hsg;done)|simp[Sem.runT,Hi,hfz]
  rw[key,ih _ h1 (fun b hm=>hb b (by simp[hm])) (.inr (by rw[e];exact pf))]
  simp only[MF,List.foldl_cons]
  rw[←e]
  simp
 |shape r k ih=>
  intro c o w es h hb hc
  simp only[uZ] at h
  split at h<;>try (cases h;done)
  rename_i o1 h1
  simp only[Option.some.injEq] at h;subst h
  have e:r=W:=hb r (by simp)
  have tq:mB ty W w c:=hc.elim (fun hh=>by cases hh.2) id
  have hsh:w.shape? r=some (ty,2):=by
   obtain⟨p,q,XF⟩:=tq.acZ
   rw[e];simp[World.shape?,XF]
  simp only[Sem.runT,hsh]
  exact ih _ _ h1 (fun b hm=>hb b (by simp[hm])) (.inr tq)
 |frozen a k ih=>
  intro c o w es h hb hc
  simp only[uZ] at h
  split at h<;>try (cases h;done)
  rename_i o1 h1
  simp only[Option.some.injEq] at h;subst h
  have e:a.block=W:=hb a.block (by simp)
  have tq:mB ty W w c:=hc.elim (fun hh=>by cases hh.2) id
  have hsh:w.frozen? a=false:=by
   obtain⟨p,q,XF⟩:=tq.acZ
   rcases a with ⟨x,y,z⟩
   simp only at e;subst e;exact acD XF _ _
  simp only[Sem.runT,hsh]
  exact ih _ _ h1 (fun b hm=>hb b (by simp[hm])) (.inr tq)
 |program k ih=>
  intro c o w es h hb hc
  simp only[uZ] at h
  simp only[Sem.runT]
  exact ih _ _ h hb hc
 |mark m k ih=>
  intro c o w es h hb hc
  simp only[uZ] at h
  split at h<;>try (cases h;done)
  rename_i o1 h1
  simp only[Option.some.injEq] at h;subst h
  simp only[Sem.runT]
  rw[ih _ h1 (fun b hm=>hb b hm) hc]
  simp
 |new o k ih=>intro c o w es h;cases h
 |freeze a n k ih=>intro c o w es h;cases h
 |getObj r k ih=>intro c o w es h;cases h
 |setObj r o k ih=>intro c o w es h;cases h
 |choose q k ih=>intro c o w es h;cases h
 |sys q k ih=>intro c o w es h;cases h
def awJ(fr:Frame):Option Frame:=
 match fr.todo with
 | []=>match fr.roundOf with
  |none=>some {fr with mode:= .returning}
  |some _=>none
 | .code .ret::_=>match fr.roundOf with
  |none=>some {fr with mode:= .returning}
  |some _=>none
 | .code .skip::k=>some {fr with todo:=k}
 | .code (.label _)::k=>some {fr with todo:=k}
 | .inBlock _::k=>some {fr with todo:=k}
 | .inScope _::k=>some {fr with todo:=k}
 | .code (.seq a b)::k=>some {fr with todo:= .code a:: .code b::k}
 | .code (.cond c x y)::k=>match fr.eval c with
  | .bool b=>some {fr with todo:= .code (if b then x else y)::k}
  |_=>none
 | .code (.block id body)::k=>some {fr with todo:= .code body:: .inBlock id::k}
 | .code (.loop body)::k=>some {fr with todo:= .code body:: .inLoop body::k}
 | .inLoop body::k=>some {fr with todo:= .code body:: .inLoop body::k}
 | .code (.scope body)::k=>some {fr with todo:= .code body:: .inScope body::k}
 | .code (.exit id)::k=>match exitTo id k with
  |some k'=>some {fr with todo:=k'}
  |none=>none
 | .code (.region _ ops false)::k=>some {fr with todo:= .inRegion ops (List.range ops.size)::k}
 | .inRegion _ []::k=>some {fr with todo:=k}
 | .inRegion ops (i::_)::_=>if ((ops[i]?).map (Region.wanted · (yielded ops fr.tmps))).getD false then none else some (fr.finish undef)
 |_=>none
theorem anN(hm:fr.mode= .run)(h:awJ fr=some nW)(w:World):stepG P main (G fr cs) w= .go (G nW cs) w #[]:=by
 rcases fr with ⟨fn,tmps,todo,defers,mode,kind,ro⟩
 simp only at hm;subst hm
 unfold awJ at h
 simp only at h
 split at h
 all_goals try (cases h;done)
 all_goals try (simp only[Option.some.injEq] at h;subst h;simp[G,stepG,stepG.exec];done)
 ·split at h<;>try (cases h;done)
  simp only[Option.some.injEq] at h;subst h;simp[G,stepG,stepG.exec]
 ·split at h<;>try (cases h;done)
  simp only[Option.some.injEq] at h;subst h;simp[G,stepG,stepG.exec]
 ·split at h<;>try (cases h;done)
  rename_i b hb
  simp only[Option.some.injEq] at h;subst h
  simp only[G,stepG,stepG.exec,hb]
 ·split at h<;>try (cases h;done)
  rename_i b hb
  simp only[Option.some.injEq] at h;subst h
  simp[G,stepG,stepG.exec,hb]
 split at h<;>try (cases h;done)
 rename_i hw
 simp only[Option.some.injEq] at h;subst h
 simp only[G,stepG,stepG.exec,hw]
 simp
inductive OV where
 |go (fr:Frame) (iG:List Frame)
 |ret (v:Value)
 |ar0
 |block
abbrev OVs:=Option (OV×List (Nat×Value)×List Event×List Nat)
def uO(P:Program)(fn:FuncId)(es:List Event):List Event:=(seen P fn es.toArray).toList
def Xt:CallKind→Bool
 | .early=>true
 |_=>false
def ad3(P:Program)(ty:TypeId)(c:LV)(fr:Frame)(iG:List Frame):OVs:=
 match fr.todo with
 | .inRegion ops (i::_)::_=>bif ((ops[i]?).map (Region.wanted · (yielded ops fr.tmps))).getD false&& !(Xt fr.kind) then (match fr.roundOf,fr.oper? with
  |none,some o=>match uZ P ty (execOp fr.eval o) c with
   |some ⟨.ok (.value v),ws,es,bs⟩=>some (.go (fr.finish v) iG,ws,uO P fr.fn es,bs)
   |some ⟨.ok .skip,ws,es,bs⟩=>some (.go (fr.finish undef) iG,ws,uO P fr.fn es,bs)
   |some ⟨.ok (.enter f args),ws,es,bs⟩=>some (.go (Frame.enter P f args .normal) (fr::iG),ws,uO P fr.fn es,bs)
   |some ⟨.ok (.defer d),ws,es,bs⟩=>some (.go ({fr with defers:=d::fr.defers}.finish undef) iG,ws,uO P fr.fn es,bs)
   |some ⟨.halt .blocked,ws,_,bs⟩=>some (.block,ws,[],bs)
   |_=>none
  |_,_=>none) else none
 |_=>none
def aB1:Target→Bool
 | .fn .. =>true
 |_=>false
def ars(P:Program)(ty:TypeId)(c:LV)(fr:Frame)(iG:List Frame):OVs:=
 match fr.defers with
 | []=>match P.funcs[fr.fn]? with
  |some fn=>match uZ P ty (results fn fr.tmps) c with
   |some ⟨.ok v,ws,es,bs⟩=>match iG with
    |q::gx=>match fr.kind with
     | .normal=>some (.go (q.finish v) gx,ws,uO P fr.fn es,bs)
     | .deferred=>match q.mode with
      | .returning=>some (.go q gx,ws,uO P fr.fn es,bs)
      |_=>none
     |_=>none
    | []=>match fr.kind with
     | .normal=>some (.ret v,ws,uO P fr.fn es,bs)
     | .deferred=>some (.ar0,ws,uO P fr.fn es,bs)
     |_=>none
   |_=>none
  |none=>none
 |d::ds=>bif aB1 d.target then (match uZ P ty (invoke d.target d.args) c with
  |some ⟨.ok (.value _),ws,es,bs⟩=>some (.go {fr with defers:=ds} iG,ws,uO P fr.fn es,bs)
  |some ⟨.ok (.enter f args),ws,es,bs⟩=>some (.go (Frame.enter P f args .deferred) ({fr with defers:=ds}::iG),ws,uO P fr.fn es,bs)
  |_=>none) else none
def PW(P:Program)(ty:TypeId)(c:LV)(fr:Frame)(iG:List Frame):OVs:=
 match fr.mode with
 | .run=>match awJ fr with
  |some nW=>some (.go nW iG,[],[],[])
  |none=>ad3 P ty c fr iG
 | .returning=>ars P ty c fr iG
 |_=>none
def OV.is(P:Program)(main:Bool)(g:Goroutine)(w w':World)(es:Array Event)(cs:List Frame):OV→Prop
 | .go fr iG=>stepG P main g w= .go (G fr (iG++cs)) w' es
 | .ret v=>(∀c IK,cs=c::IK→stepG P main g w= .go (G (c.finish v) IK) w' es)
 | .ar0=>(∀c IK,cs=c::IK→(c.mode= .returning∨∃ch,c.mode= .panicking [⟨ch,false,true⟩])→stepG P main g w= .go (G c IK) w' es)
 | .block=>stepG P main g w= .go {g with status:= .blocked} w' es
section
variable {P:Program} {main:Bool} {ty:TypeId} {W:Nat} {c:LV} {fr:Frame} {iG cs:List Frame} {w:World} {o:OV} {ws:List (Nat×Value)} {es:List Event} {bs:List Nat}
theorem toArr(P:Program)(fn:FuncId)(es:List Event):(uO P fn es).toArray=seen P fn es.toArray:=by simp[uO]
theorem ad2(hm:fr.mode= .run)(h:ad3 P ty c fr iG=some (o,ws,es,bs))(hb:∀b∈bs,b=W)(hc:(c=jF∧bs=[])∨mB ty W w c)(cs:List Frame)(main:Bool):o.is P main (G fr (iG++cs)) w (MF W w ws) es.toArray cs:=by
 rcases fr with ⟨fn,tmps,todo,defers,mode,kind,ro⟩
 simp only at hm;subst hm
 unfold ad3 at h
 simp only at h
 split at h<;>try (cases h;done)
 rename_i ops i rest k
 cases hw:(((ops[i]?).map (Region.wanted · (yielded ops tmps))).getD false&& !(Xt kind)) with
 |false=>rw[hw] at h;cases h
 |true=>
 rw[hw] at h;simp only[cond_true] at h
 simp only[Bool.and_eq_true] at hw
 have hk:(kind==CallKind.early)=false:=by cases kind<;>first|rfl|cases hw.2
 split at h<;>try (cases h;done)
 rename_i op aA
 have gL:∀cs,stepG P main (G ⟨fn,tmps,.inRegion ops (i::rest)::k,defers,.run,kind,none⟩ cs) w=stepG.apply P true ⟨fn,tmps,.inRegion ops (i::rest)::k,defers,.run,kind,none⟩ cs none (execOp (Frame.eval ⟨fn,tmps,.inRegion ops (i::rest)::k,defers,.run,kind,none⟩) op) w:=by
  intro cs
  simp only[G,stepG,stepG.exec,hw.1,if_true,stepG.oper,aA]
 split at h<;>try (cases h;done)
 all_goals
  rename_i heq hv
  simp only[Option.some.injEq,Prod.mk.injEq] at h
  obtain⟨rfl,rfl,rfl,rfl⟩:=h
  have bV:=Ml _ (w:=w) #[] hv hb hc
  simp only[RH.to,Array.empty_append] at bV
  simp only[OV.is]
  rw[gL]
  simp only[stepG.apply,bV,if_true,hk,Bool.false_eq_true,if_false,GStep.after,Array.append_empty,G,toArr]
 all_goals first|rfl| (simp[seen_none];done)
theorem akH(hm:fr.mode= .returning)(h:ars P ty c fr iG=some (o,ws,es,bs))(hb:∀b∈bs,b=W)(hc:(c=jF∧bs=[])∨mB ty W w c)(cs:List Frame)(main:Bool):o.is P main (G fr (iG++cs)) w (MF W w ws) es.toArray cs:=by
 rcases fr with ⟨fn,tmps,todo,defers,mode,kind,ro⟩
 simp only at hm;subst hm
 unfold ars at h
 simp only at h
 split at h
 ·split at h<;>try (cases h;done)
  rename_i f hf
  split at h<;>try (cases h;done)
  rename_i v ws' eE wP hv
  have bV:=fun hb hc=>Ml _ (w:=w) #[] hv (W:=W) hb hc
  simp only[RH.to,Array.empty_append] at bV
  have key:(∀b∈wP,b=W)→((c=jF∧wP=[])∨mB ty W w c)→∀cs,stepG P main (G ⟨fn,tmps,todo,[],.returning,kind,ro⟩ cs) w=GStep.after (seen P fn eE.toArray) (doReturn P main ⟨fn,tmps,todo,[],.returning,kind,ro⟩ cs none v (MF W w ws')):=by
   intro hb hc cs
   simp only[G,stepG,unwind,hf,bV hb hc]
  split at h
  ·split at h<;>try (cases h;done)
   ·simp only[Option.some.injEq,Prod.mk.injEq] at h
    obtain⟨rfl,rfl,rfl,rfl⟩:=h
    simp only[OV.is]
    rw[key hb hc]
    simp only[List.cons_append,doReturn,GStep.after,Array.append_empty,toArr,G]
   split at h<;>try (cases h;done)
   rename_i q gx hmq
   simp only[Option.some.injEq,Prod.mk.injEq] at h
   obtain⟨rfl,rfl,rfl,rfl⟩:=h
   simp only[OV.is]
   rw[key hb hc]
   simp only[List.cons_append,doReturn,hmq,GStep.after,Array.append_empty,toArr,G]
  split at h<;>try (cases h;done)
  ·simp only[Option.some.injEq,Prod.mk.injEq] at h
   obtain⟨rfl,rfl,rfl,rfl⟩:=h
   intro q IK hq
   subst hq
   rw[key hb hc]
   simp only[List.nil_append,doReturn,GStep.after,Array.append_empty,toArr,G]
  simp only[Option.some.injEq,Prod.mk.injEq] at h
  obtain⟨rfl,rfl,rfl,rfl⟩:=h
  intro q IK hq hmq
  subst hq
  rw[key hb hc]
  rcases hmq with hmq| ⟨ch,hmq⟩
  ·simp only[List.nil_append,doReturn,hmq,GStep.after,Array.append_empty,toArr,G]
  simp only[List.nil_append,doReturn,hmq,GStep.after,Array.append_empty,toArr,G]
 rename_i d ds
 cases hd:aB1 d.target with
 |false=>rw[hd] at h;cases h
 |true=>
 rw[hd] at h;simp only[cond_true] at h
 rcases d with ⟨tg,args⟩
 cases tg with
 |fn f cap=>
  split at h<;>try (cases h;done)
  all_goals
   rename_i hv
   simp only[Option.some.injEq,Prod.mk.injEq] at h
   obtain⟨rfl,rfl,rfl,rfl⟩:=h
   have bV:=Ml _ (w:=w) #[] hv hb hc
   simp only[RH.to,Array.empty_append] at bV
   simp only[OV.is]
   simp only[G,stepG,unwind,callDeferred,bV,GStep.after,toArr,Array.append_empty,Bool.false_and,Bool.false_eq_true,if_false,List.cons_append]
 |_=>cases hd
theorem rj(h:PW P ty c fr iG=some (o,ws,es,bs))(hb:∀b∈bs,b=W)(hc:(c=jF∧bs=[])∨mB ty W w c)(cs:List Frame)(main:Bool):o.is P main (G fr (iG++cs)) w (MF W w ws) es.toArray cs:=by
 unfold PW at h
 split at h<;>try (cases h;done)
 ·rename_i hm
  split at h
  ·rename_i nW hfr
   simp only[Option.some.injEq,Prod.mk.injEq] at h
   obtain⟨rfl,rfl,rfl,rfl⟩:=h
   exact anN hm hfr w
  exact ad2 hm h hb hc cs main
 rename_i hm
 exact akH hm h hb hc cs main
end
def aiF:Event→Option (Nat×Nat×List Nat)
 | ⟨.mark .disable,false,true⟩=>some (1,0,[])
 | ⟨.mark .enable,false,true⟩=>some (2,0,[])
 | ⟨.mark (.releaseMerge ⟨b,o,none⟩),false,true⟩=>some (3,o,[b])
 | ⟨.mark (.acquire ⟨b,o,none⟩),false,true⟩=>some (4,o,[b])
 | ⟨.mark (.read ⟨b,o,none⟩),false,true⟩=>some (5,o,[b])
 | ⟨.mark (.write ⟨b,o,none⟩),false,true⟩=>some (6,o,[b])
 | ⟨.cell ⟨b,o,none⟩,false,true⟩=>some (7,o,[b])
 | ⟨.cell ⟨b,o,none⟩,true,true⟩=>some (8,o,[b])
 |_=>none
def Vl(W:Nat)(x:Nat×Nat):Event:=
 match x.1 with
 |1=>said .disable
 |2=>said .enable
 |3=>said (.releaseMerge ⟨W,x.2,none⟩)
 |4=>said (.acquire ⟨W,x.2,none⟩)
 |5=>said (.read ⟨W,x.2,none⟩)
 |6=>said (.write ⟨W,x.2,none⟩)
 |7=>⟨.cell ⟨W,x.2,none⟩,false,true⟩
 |_=>⟨.cell ⟨W,x.2,none⟩,true,true⟩
theorem aiE{e:Event}{k o:Nat}{bs:List Nat}(h:aiF e=some (k,o,bs))(hb:∀b∈bs,b=W):e=Vl W (k,o):=by
 unfold aiF at h
 split at h<;>try (cases h;done)
 all_goals
  simp only[Option.some.injEq,Prod.mk.injEq] at h
  obtain⟨rfl,rfl,rfl⟩:=h
 ·rfl
 ·rfl
 all_goals
  have:=hb _ (List.mem_singleton.2 rfl)
  subst this
  rfl
def HR:List Event→Option (List (Nat×Nat)×List Nat)
 | []=>some ([],[])
 |e::l=>match aiF e,HR l with
  |some (k,o,b),some (r,bs)=>some ((k,o)::r,b++bs)
  |_,_=>none
theorem Ly:∀ {es:List Event} {ks:List (Nat×Nat)} {bs:List Nat},HR es=some (ks,bs)→(∀b∈bs,b=W)→es=ks.map (Vl W)
 | [],ks,bs,h,hb=>by simp only[HR,Option.some.injEq,Prod.mk.injEq] at h;obtain⟨rfl,rfl⟩:=h;rfl
 |e::l,ks,bs,h,hb=>by
  simp only[HR] at h
  split at h<;>try (cases h;done)
  rename_i k o b r wP h1 h2
  simp only[Option.some.injEq,Prod.mk.injEq] at h
  obtain⟨rfl,rfl⟩:=h
  rw[List.map_cons,←aiE h1 (fun x hx=>hb x (by simp[hx])),←Ly h2 (fun x hx=>hb x (by simp[hx]))]
abbrev Bl:=Option (List Nat)
def ai7:List Nat→Bl→Bl
 |a,some b=>some (a++b)
 |_,none=>none
def both:Bl→Bl→Bl
 |some a,some b=>some (a++b)
 |_,_=>none
def ajd(f:α→Bl):List α→Bl
 | []=>some []
 |x::l=>both (f x) (ajd f l)
theorem N8{a bs:List Nat}{x:Bl}(h:ai7 a x=some bs)(hb:∀b∈bs,b=W):(∀b∈a,b=W)∧∃y,x=some y∧∀b∈y,b=W:=by
 cases x with
 |none=>cases h
 |some y=>
  simp only[ai7,Option.some.injEq] at h;subst h
  exact⟨fun b hm=>hb b (by simp[hm]),y,rfl,fun b hm=>hb b (by simp[hm])⟩
theorem Bi{bs:List Nat}{x y:Bl}(h:both x y=some bs)(hb:∀b∈bs,b=W):(∃a,x=some a∧∀b∈a,b=W)∧∃a,y=some a∧∀b∈a,b=W:=by
 cases x with
 |none=>cases h
 |some a=>
  cases y with
  |none=>cases h
  |some b=>
   simp only[both,Option.some.injEq] at h;subst h
   exact⟨⟨a,rfl,fun b hm=>hb b (by simp[hm])⟩,b,rfl,fun b hm=>hb b (by simp[hm])⟩
theorem Fp{f:α→Bl}:∀ {l:List α} {bs:List Nat},ajd f l=some bs→(∀b∈bs,b=W)→∀x∈l,∃a,f x=some a∧∀b∈a,b=W
 | [],_,_,_,x,hx=>by cases hx
 |y::l,bs,h,hb,x,hx=>by
  obtain⟨h1,h2,h3,h4⟩:=Bi h hb
  rcases List.mem_cons.1 hx with rfl|hx
  ·exact h1
  exact Fp h3 h4 x hx
def DV(P:Program)(ty:TypeId):Nat→Frame→List Frame→(Frame→List Frame→Bl)→Bl
 |0,_,_,_=>none
 |n+1,fr,iG,k=>match PW P ty jF fr iG with
  |some (.go nW gx,[],[],bs)=>ai7 bs (DV P ty n nW gx k)
  |_=>k fr iG
def aq2(P:Program)(ty:TypeId)(c:LV)(fr:Frame)(iG:List Frame):Option (Frame×List Frame×List (Nat×Value)×List (Nat×Nat)×List Nat×List Nat):=
 match PW P ty c fr iG with
 |some (.go nW gx,ws,es,bs)=>match HR es with
  |some (ks,b2)=>some (nW,gx,ws,ks,bs,b2)
  |none=>none
 |_=>none
def i64(n:Int):Value:= .int .u64 n
def i32(n:Int):Value:= .int .u32 n
def Vy:List (Nat×Nat)→List (Nat×Nat)→Bool
 | [],[]=>true
 | (a,b)::l,(c,d)::m=>Nat.beq a c&&(Nat.beq b d&&Vy l m)
 |_,_=>false
theorem YG:∀ {l m:List (Nat×Nat)},Vy l m=true→l=m
 | [],[],_=>rfl
 | (a,b)::l,(c,d)::m,h=>by
  simp only[Vy,Bool.and_eq_true] at h
  rw[Nat.eq_of_beq_eq_true h.1,Nat.eq_of_beq_eq_true h.2.1,YG h.2.2]
 | [],_::_,h=>by simp[Vy] at h
 |_::_,[],h=>by simp[Vy] at h
def abg:List (Nat×Value)→Option (Nat×IntKind×Int)→Bool
 | [],none=>true
 | [(o,.int k n)],some (o',k',n')=>Nat.beq o o'&&(decide (k=k')&&decide (n=n'))
 |_,_=>false
theorem abf{l:List (Nat×Value)}(h:abg l none=true):l=[]:=by
 unfold abg at h
 split at h
 ·rfl
 ·rename_i heq;cases heq
 cases h
theorem abe{l:List (Nat×Value)}{o:Nat}{k:IntKind}{n:Int}(h:abg l (some (o,k,n))=true):l=[(o,.int k n)]:=by
 unfold abg at h
 split at h
 ·rename_i heq;cases heq
 ·rename_i heq
  cases heq
  simp only[Bool.and_eq_true,decide_eq_true_eq] at h
  rw[Nat.eq_of_beq_eq_true h.1,h.2.1,h.2.2]
 cases h
def Ed(P:Program)(ty:TypeId)(c:LV)(m:Bool)(wr:Option (Nat×IntKind×Int))(ks:List (Nat×Nat))(fr:Frame)(iG:List Frame)(k:Frame→List Frame→Bl):Bl:=
 match aq2 P ty c fr iG with
 |some (nW,gx,ws,ks',b1,b2)=>bif abg ws wr&&(Vy ks' ks&&(!m||b1.isEmpty)) then ai7 b1 (ai7 b2 (k nW gx)) else none
 |none=>none
section
variable {P:Program} {ty:TypeId} {W:Nat}
theorem akB{c:LV}{gx:List Frame}{ws:List (Nat×Value)}{ks:List (Nat×Nat)}{b1 b2:List Nat}(h:aq2 P ty c fr iG=some (nW,gx,ws,ks,b1,b2))(h1:∀b∈b1,b=W)(h2:∀b∈b2,b=W)
 {w:World}(hc:(c=jF∧b1=[])∨mB ty W w c)(cs:List Frame)(main:Bool):stepG P main (G fr (iG++cs)) w= .go (G nW (gx++cs)) (MF W w ws) (ks.map (Vl W)).toArray:=by
 unfold aq2 at h
 split at h<;>try (cases h;done)
 rename_i h0
 split at h<;>try (cases h;done)
 rename_i hk
 simp only[Option.some.injEq,Prod.mk.injEq] at h
 obtain⟨rfl,rfl,rfl,rfl,rfl,rfl⟩:=h
 have:=rj h0 h1 hc cs main
 simp only[OV.is] at this
 rw[this,Ly hk h2]
def wrote(W:Nat)(w:World):Option (Nat×IntKind×Int)→World
 |none=>w
 |some (o,k,n)=>w.setCell ⟨W,o,none⟩ (.int k n)
theorem ib{c:LV}{m:Bool}{x:Option (Nat×IntKind×Int)}{ks:List (Nat×Nat)}{k:Frame→List Frame→Bl}{bs:List Nat}(h:Ed P ty c m x ks fr iG k=some bs)(hb:∀b∈bs,b=W):
 ∃nW gx wP,k nW gx=some wP∧(∀b∈wP,b=W)∧∀cs main w,((c=jF∧m=true)∨mB ty W w c)→stepG P main (G fr (iG++cs)) w= .go (G nW (gx++cs)) (wrote W w x) (ks.map (Vl W)).toArray:=by
 unfold Ed at h
 split at h<;>try (cases h;done)
 rename_i nW gx ws ks' b1 b2 hv
 cases hq:(abg ws x&&(Vy ks' ks&&(!m||b1.isEmpty))) with
 |false=>rw[hq] at h;cases h
 |true=>
 rw[hq] at h;simp only[cond_true] at h
 simp only[Bool.and_eq_true] at hq
 obtain⟨q1,q2,q3⟩:=hq
 obtain⟨h1,y,hy,hy'⟩:=N8 h hb
 obtain⟨h2,z,hz,Ew⟩:=N8 hy hy'
 refine⟨nW,gx,z,hz,Ew,fun cs main w hc=>?_⟩
 have:=akB hv h1 h2 (w:=w) (by
  rcases hc with ⟨hc,hm⟩|hc
  ·subst hm
   simp at q3
   exact .inl ⟨hc,q3⟩
  exact .inr hc) cs main
 rw[this,YG q2]
 cases x with
 |none=>rw[abf q1];rfl
 |some x=>
  obtain⟨o,kd,n⟩:=x
  rw[abe q1];rfl
theorem U4{k:Frame→List Frame→Bl}:∀ {n:Nat} {fr:Frame} {iG:List Frame} {bs:List Nat},DV P ty n fr iG k=some bs→(∀b∈bs,b=W)→
 ∀(T:Frame→List Frame→Prop),(∀nW gx wP,k nW gx=some wP→(∀b∈wP,b=W)→T nW gx)→
 (∀fr iG nW gx,(∀cs main w,mB ty W w jF→stepG P main (G fr (iG++cs)) w= .go (G nW (gx++cs)) w #[])→T nW gx→T fr iG)→T fr iG
 |0,_,_,_,h,_,_,_,_=>by cases h
 |n+1,fr,iG,bs,h,hb,T,hk,hs=>by
  simp only[DV] at h
  split at h
  ·rename_i nW gx b1 h0
   obtain⟨h1,y,hy,hy'⟩:=N8 h hb
   refine hs fr iG nW gx (fun cs main w hc=>?_) (U4 hy hy' T hk hs)
   have:=rj h0 h1 (.inr hc) cs main
   simp only[OV.is] at this
   rw[this];rfl
  exact hk _ _ _ h hb
end
section
variable {ι:Type} (E:dY ι)
theorem GF{w:World}(h:E.live w):mB E.ty E.Wg w jF:=by
 obtain⟨st,sm,h⟩:=h
 exact⟨_,_,h,by simp,by simp⟩
theorem oX{w:World}(h:WgAt E.ty E.Wg w st sm):mB E.ty E.Wg w (some (i64 st),some (i32 sm)):=⟨_,_,h,by simp[i64],by simp[i32]⟩
theorem arO{w:World}(h:WgAt E.ty E.Wg w st sm):mB E.ty E.Wg w (none,some (i32 sm)):=⟨_,_,h,by simp,by simp[i32]⟩
variable {E}
theorem fH{Stop:Goroutine→Prop}{k:Frame→List Frame→Bl}{bs:List Nat}(h:DV E.P E.ty n fr iG k=some bs)(hb:∀b∈bs,b=E.Wg)
 (hk:∀nW gx wP,k nW gx=some wP→(∀b∈wP,b=E.Wg)→Stop (G nW (gx++cs))):E.pure main Stop (G fr (iG++cs)):=by
 refine U4 h hb (fun fr iG=>E.pure main Stop (G fr (iG++cs))) (fun nW gx wP h1 h2=>⟨0,hk _ _ _ h1 h2⟩) fun fr iG nW gx h1 ⟨m,hm⟩=>⟨m+1,rfl,_,fun w hw=>h1 cs main w (GF E hw),hm⟩
theorem NB{L:Nat→Option Obj}{pend d0:Nat}{os:List ι}{s:St}{k:Frame→List Frame→Bl}{bs:List Nat}(h:DV E.P E.ty n fr iG k=some bs)(hb:∀b∈bs,b=E.Wg)
 (hk:∀nW gx wP,k nW gx=some wP→(∀b∈wP,b=E.Wg)→TC E L Q pend false os d0 (G nW (gx++cs)) s):TC E L Q pend false os d0 (G fr (iG++cs)) s:=
 U4 h hb (fun fr iG=>TC E L Q pend false os d0 (G fr (iG++cs)) s) hk fun fr iG nW gx h1 hT=>Wb rfl (fun w hw=>h1 cs true w (GF E hw)) hT
def goR(P:Program)(ty:TypeId):Nat→Frame→List Frame→Bl
 |0,_,_=>none
 |n+1,fr,iG=>match PW P ty jF fr iG with
  |some (.go nW gx,[],[],[])=>goR P ty n nW gx
  |some (.ret (.tuple ⟨[]⟩),[],[],[])=>some []
  |_=>none
theorem U2{c:Frame}:∀ {n:Nat} {fr:Frame} {iG:List Frame} {bs:List Nat},goR P ty n fr iG=some bs→
 ∀(main:Bool) (T:Goroutine→Prop),T (G (c.finish (.tuple #[])) cs)→(∀g g',g.status= .running→g'.status= .running→(∀w,stepG P main g w= .go g' w #[])→T g'→T g)→T (G fr (iG++c::cs))
 |0,_,_,_,h,_,_,_,_=>by cases h
 |n+1,fr,iG,bs,h,main,T,hT,hs=>by
  simp only[goR] at h
  split at h
  ·rename_i nW gx h0
   refine hs _ _ rfl rfl (fun w=>?_) (U2 h main T hT hs)
   have:=rj (W:=0) (w:=w) h0 (by simp) (.inl ⟨rfl,rfl⟩) (c::cs) main
   simp only[OV.is] at this
   rw[this];rfl
  ·rename_i h0
   refine hs _ _ rfl rfl (fun w=>?_) hT
   have:=rj (W:=0) (w:=w) h0 (by simp) (.inl ⟨rfl,rfl⟩) (c::cs) main
   simp only[OV.is] at this
   have h2:=this c cs rfl
   rw[h2];rfl
  cases h
def Qb:List Event→Bool
 | []=>true
 |e::l=>e.mute&&Qb l
def goQ(P:Program)(ty:TypeId):Nat→Nat→Frame→List Frame→Bl
 |0,_,_,_=>none
 |n+1,d,fr,iG=>match PW P ty jF fr iG with
  |some (.go nW gx,[],es,[])=>bif Qb es then goQ P ty n (deafBehind d es.toArray) nW gx else none
  |some (.ar0,[],[],[])=>bif Nat.beq d 0 then some [] else none
  |_=>none
theorem Qa:∀ {es:List Event},Qb es=true→∀e∈es,e.mute=true
 | [],_,e,he=>by cases he
 |x::l,h,e,he=>by
  simp only[Qb,Bool.and_eq_true] at h
  rcases List.mem_cons.1 he with rfl|he
  ·exact h.1
  exact Qa h.2 e he
theorem U3{c:Frame}{q:Nat}(hc:c.mode= .returning∨∃ch,c.mode= .panicking [⟨ch,false,true⟩])(hq:QuitsD P q 0 (G c cs)):∀ {n d:Nat} {fr:Frame} {iG:List Frame} {bs:List Nat},goQ P ty n d fr iG=some bs→
 ∃q,QuitsD P q d (G fr (iG++c::cs))
 |0,_,_,_,_,h=>by cases h
 |n+1,d,fr,iG,bs,h=>by
  simp only[goQ] at h
  split at h
  ·rename_i nW gx es h0
   cases hm:Qb es with
   |false=>rw[hm] at h;cases h
   |true=>
   rw[hm] at h;simp only[cond_true] at h
   obtain⟨q',Fa⟩:=U3 hc hq h
   refine⟨q'+1,.inr ⟨rfl,_,es.toArray,fun e he=>Qa hm e (by simpa using he),fun w=>?_,Fa⟩⟩
   have:=rj (W:=0) (w:=w) h0 (by simp) (.inl ⟨rfl,rfl⟩) (c::cs) false
   simp only[OV.is] at this
   rw[this];rfl
  ·rename_i h0
   cases hd:Nat.beq d 0 with
   |false=>rw[hd] at h;cases h
   |true=>
   have:d=0:=Nat.eq_of_beq_eq_true hd
   subst this
   refine⟨q+1,.ctl rfl (fun w=>?_) hq⟩
   have:=rj (W:=0) (w:=w) h0 (by simp) (.inl ⟨rfl,rfl⟩) (c::cs) false
   simp only[OV.is] at this
   have h2:=this c cs rfl hc
   rw[h2];rfl
  cases h
end
section
variable (P:Program) (ty:TypeId)
abbrev Yy(a b:Int):LV:=(some (i64 a),some (i32 b))
abbrev azV:List (Nat×Nat):=[(1,0),(7,1),(8,1),(2,0)]
def aiR(f:Frame)(s:List Frame):Bl:=bif mayWake P (G f []) then Ed P ty (Yy 0 0) false (some (1,.u32,1)) azV f s (goQ P ty 300 1) else none
def aqy(f:Frame)(s:List Frame):Bl:=Ed P ty (Yy 1 0) false (some (0,.u64,0)) [(8,0)] f s fun f s=>DV P ty 300 f s (aiR P ty)
def aqz(f:Frame)(s:List Frame):Bl:=Ed P ty (Yy 1 0) false none [(7,0)] f s fun f s=>DV P ty 300 f s (aqy P ty)
def Vr(f:Frame)(s:List Frame)(v wt:Nat):Bl:=
 Ed P ty (Yy (((v+1:Nat):Int)*KK+(wt:Int)) 0) false (some (0,.u64,(v:Int)*KK+(wt:Int))) [(7,0),(8,0)] f s fun f s=>bif Nat.beq v 0&&Nat.beq wt 1 then DV P ty 300 f s (aqz P ty) else goQ P ty 300 1 f s
def aqA(mx:Nat)(f:Frame)(s:List Frame):Bl:=ajd (fun v=>both (Vr P ty f s v 0) (Vr P ty f s v 1)) (List.range mx)
def aqx(mx:Nat)(f:Frame)(s:List Frame):Bl:=Ed P ty jF true none [(1,0)] f s fun f s=>DV P ty 300 f s (aqA P ty mx)
def aqw(mx:Nat)(f:Frame)(s:List Frame):Bl:=Ed P ty jF true none [(3,0)] f s fun f s=>DV P ty 300 f s (aqx P ty mx)
def xD(mx:Nat)(f:Frame):Bl:=DV P ty 300 f [] (aqw P ty mx)
def aqB(f:Frame)(s:List Frame):Bl:=Ed P ty jF true none [(4,0)] f s (goR P ty 300)
def Yx(f:Frame)(s:List Frame):Bl:=Ed P ty jF true none [(2,0)] f s fun f s=>DV P ty 300 f s (aqB P ty)
def aqt(f:Frame)(s:List Frame):Bl:=Ed P ty (Yy 0 0) false none [(7,0)] f s fun f s=>DV P ty 300 f s (Yx P ty)
def aHH(c:LV)(f:Frame)(s:List Frame):Bl:=match PW P ty c f s with
 |some (.block,[],[],bs)=>some bs
 |_=>none
def aqu(f:Frame)(s:List Frame):Bl:=both (aHH P ty (none,some (i32 0)) f s) (Ed P ty (Yy 0 1) false (some (1,.u32,0)) azV f s fun f s=>DV P ty 300 f s (aqt P ty))
def aqs(f:Frame)(s:List Frame):Bl:=Ed P ty jF true none [(6,1)] f s fun f s=>DV P ty 300 f s (aqu P ty)
def aqv(alK:Frame→List Frame→Bl)(vs:Nat)(f:Frame)(s:List Frame):Bl:=
 both (Ed P ty (Yy ((vs:Int)*KK) 0) false (some (0,.u64,(vs:Int)*KK+1)) [(7,0),(8,0)] f s fun f s=>DV P ty 300 f s (aqs P ty))
  (ajd (fun v:Nat=>Ed P ty (Yy ((v:Int)*KK) 0) false none [(7,0)] f s fun f s=>DV P ty 300 f s alK) (List.range vs))
def RR:Nat→Frame→List Frame→Bl
 |0,f,s=>Ed P ty (Yy 0 0) false none [(7,0)] f s fun f s=>DV P ty 300 f s (Yx P ty)
 |b+1,f,s=>both (Ed P ty (Yy 0 0) false none [(7,0)] f s fun f s=>DV P ty 300 f s (Yx P ty))
  (ajd (fun v:Nat=>Ed P ty (Yy (((v+1:Nat):Int)*KK) 0) false none [(7,0)] f s fun f s=>DV P ty 300 f s (aqv P ty (RR b) (v+1))) (List.range (b+1)))
def Bd(mx:Nat)(f:Frame):Bl:=DV P ty 300 f [] fun f s=>Ed P ty jF true none [(1,0)] f s fun f s=>DV P ty 300 f s (RR P ty mx)
def HX(v:Nat)(f:Frame):Bl:=
 DV P ty 300 f [] fun f s=>Ed P ty jF true none [(1,0)] f s fun f s=>DV P ty 300 f s fun f s=>
  Ed P ty (Yy ((v:Int)*KK) 0) false (some (0,.u64,((v+1:Nat):Int)*KK)) [(7,0),(8,0)] f s fun f s=>DV P ty 300 f s fun f s=>
   bif Nat.beq v 0 then Ed P ty jF false none [(5,1)] f s fun f s=>DV P ty 300 f s fun f s=>Ed P ty jF true none [(2,0)] f s (goR P ty 300)
   else Ed P ty jF true none [(2,0)] f s (goR P ty 300)
end
section
variable {ι:Type} {E:dY ι}
section leave
variable {c:Frame} {cs:List Frame} (hc:c.mode= .returning∨∃ch,c.mode= .panicking [⟨ch,false,true⟩]) {q0:Nat} (hq:QuitsD E.P q0 0 (G c cs))
include hc hq
theorem aiQ{bs:List Nat}(h:aiR E.P E.ty f s=some bs)(hb:∀b∈bs,b=E.Wg):E.D4 (G f (s++c::cs)):=by
 unfold aiR at h
 cases hm:mayWake E.P (G f []) with
 |false=>rw[hm] at h;cases h
 |true=>
 rw[hm] at h;simp only[cond_true] at h
 obtain⟨f',s',wP,h1,h2,h3⟩:=ib h hb
 exact⟨rfl,hm,_,fun w hw=>h3 _ _ w (.inr (oX E hw)),U3 hc hq h1⟩
theorem aiS{bs:List Nat}(h:aqy E.P E.ty f s=some bs)(hb:∀b∈bs,b=E.Wg):E.D3 (G f (s++c::cs)):=by
 obtain⟨f',s',wP,h1,h2,h3⟩:=ib h hb
 exact⟨rfl,_,fun w hw=>h3 _ _ w (.inr (oX E hw)),fH h1 h2 fun _ _ _ k1 k2=>aiQ hc hq k1 k2⟩
theorem aiT{bs:List Nat}(h:aqz E.P E.ty f s=some bs)(hb:∀b∈bs,b=E.Wg):E.D2 (G f (s++c::cs)):=by
 obtain⟨f',s',wP,h1,h2,h3⟩:=ib h hb
 exact⟨rfl,_,fun w hw=>h3 _ _ w (.inr (oX E hw)),fH h1 h2 fun _ _ _ k1 k2=>aiS hc hq k1 k2⟩
theorem aiU{bs:List Nat}(h:aqA E.P E.ty E.max f s=some bs)(hb:∀b∈bs,b=E.Wg):E.D1 (G f (s++c::cs)):=by
 refine⟨rfl,fun v wt hwt hv=>?_⟩
 obtain⟨a,h1,h2⟩:=Fp h hb v (List.mem_range.2 hv)
 have key:∃a,Vr E.P E.ty f s v wt=some a∧∀b∈a,b=E.Wg:=by
  obtain⟨k1,k2⟩:=Bi h1 h2
  match wt,hwt with
  |0,_=>exact k1
  |1,_=>exact k2
 obtain⟨a',k1,k2⟩:=key
 obtain⟨f',s',wP,j1,j2,j3⟩:=ib k1 k2
 refine⟨_,fun w hw=>j3 _ _ w (.inr (oX E hw)),fun hh=>?_,fun hh=>?_⟩
 ·obtain⟨rfl,rfl⟩:=hh
  exact fH j1 j2 fun _ _ _ k1 k2=>aiT hc hq k1 k2
 have:(Nat.beq v 0&&Nat.beq wt 1)=false:=by
  cases hx:(Nat.beq v 0&&Nat.beq wt 1) with
  |false=>rfl
  |true=>
   simp only[Bool.and_eq_true] at hx
   exact absurd ⟨Nat.eq_of_beq_eq_true hx.1,Nat.eq_of_beq_eq_true hx.2⟩ hh
 rw[this] at j1;simp only[cond_false] at j1
 exact U3 hc hq j1
theorem aiP{bs:List Nat}(h:aqx E.P E.ty E.max f s=some bs)(hb:∀b∈bs,b=E.Wg):E.K1 (G f (s++c::cs)):=by
 obtain⟨f',s',wP,h1,h2,h3⟩:=ib h hb
 exact⟨rfl,_,fun w=>h3 _ _ w (.inl ⟨rfl,rfl⟩),fH h1 h2 fun _ _ _ k1 k2=>aiU hc hq k1 k2⟩
theorem aiO{bs:List Nat}(h:aqw E.P E.ty E.max f s=some bs)(hb:∀b∈bs,b=E.Wg):E.R0 (G f (s++c::cs)):=by
 obtain⟨f',s',wP,h1,h2,h3⟩:=ib h hb
 exact⟨rfl,_,fun w=>h3 _ _ w (.inl ⟨rfl,rfl⟩),fH h1 h2 fun _ _ _ k1 k2=>aiP hc hq k1 k2⟩
theorem HW{bs:List Nat}(h:xD E.P E.ty E.max f=some bs)(hb:∀b∈bs,b=E.Wg):E.pure false E.R0 (G f (c::cs)):=
 fH (iG:=[]) h hb fun _ _ _ k1 k2=>aiO hc hq k1 k2
end leave
section close
variable {c:Frame} {cs:List Frame} {st:St} (hT:eS E.P false E.JD (G (c.finish (.tuple #[])) cs) st)
include hT
theorem aiW{bs:List Nat}(h:aqB E.P E.ty f s=some bs)(hb:∀b∈bs,b=E.Wg):E.Aq st (G f (s++c::cs)):=by
 obtain⟨f',s',wP,h1,h2,h3⟩:=ib h hb
 have key:=U2 (c:=c) (cs:=cs) h1 false (fun g=>eS E.P false E.JD g st) hT fun g g' hg hg' bU hT'=>(eg _ _ _).go hg hg' bU hT'
 obtain⟨tr,iE,hle,ht⟩:=key
 exact⟨rfl,_,fun w=>h3 _ _ w (.inl ⟨rfl,rfl⟩),tr,iE,hle,ht⟩
theorem HV{bs:List Nat}(h:Yx E.P E.ty f s=some bs)(hb:∀b∈bs,b=E.Wg):E.Ke st (G f (s++c::cs)):=by
 obtain⟨f',s',wP,h1,h2,h3⟩:=ib h hb
 exact⟨rfl,_,fun w=>h3 _ _ w (.inl ⟨rfl,rfl⟩),fH h1 h2 fun _ _ _ k1 k2=>aiW hT k1 k2⟩
theorem aiL{bs:List Nat}(h:aqt E.P E.ty f s=some bs)(hb:∀b∈bs,b=E.Wg):E.W4 st (G f (s++c::cs)):=by
 obtain⟨f',s',wP,h1,h2,h3⟩:=ib h hb
 exact⟨rfl,_,fun w hw=>h3 _ _ w (.inr (oX E hw)),fH h1 h2 fun _ _ _ k1 k2=>HV hT k1 k2⟩
theorem aiM{bs:List Nat}(h:aqu E.P E.ty f s=some bs)(hb:∀b∈bs,b=E.Wg):E.W3 st (G f (s++c::cs)):=by
 obtain⟨⟨b1,k1,k2⟩,b2,k3,k4⟩:=Bi h hb
 obtain⟨f',s',wP,h1,h2,h3⟩:=ib k3 k4
 refine⟨rfl,rfl,fun w n hw=>?_,_,fun w hw=>h3 _ _ w (.inr (oX E hw)),fH h1 h2 fun _ _ _ k1 k2=>aiL hT k1 k2⟩
 unfold aHH at k1
 split at k1<;>try (cases k1;done)
 rename_i h0
 simp only[Option.some.injEq] at k1;subst k1
 have:=rj h0 k2 (w:=w) (.inr (arO E hw)) (c::cs) false
 simp only[OV.is] at this
 rw[this];rfl
theorem aiK{bs:List Nat}(h:aqs E.P E.ty f s=some bs)(hb:∀b∈bs,b=E.Wg):E.Wr st (G f (s++c::cs)):=by
 obtain⟨f',s',wP,h1,h2,h3⟩:=ib h hb
 exact⟨rfl,_,fun w=>h3 _ _ w (.inl ⟨rfl,rfl⟩),fH h1 h2 fun _ _ _ k1 k2=>aiM hT k1 k2⟩
theorem aiN{alK:Frame→List Frame→Bl}{ajm:Goroutine→Prop}(hm:∀f s bs,alK f s=some bs→(∀b∈bs,b=E.Wg)→ajm (G f (s++c::cs))){vs:Nat}{bs:List Nat}(h:aqv E.P E.ty alK vs f s=some bs)(hb:∀b∈bs,b=E.Wg):
 E.W2 (E.pure false ajm) st vs (G f (s++c::cs)):=by
 obtain⟨⟨b1,k1,k2⟩,b2,k3,k4⟩:=Bi h hb
 obtain⟨f',s',wP,h1,h2,h3⟩:=ib k1 k2
 refine⟨rfl,⟨_,fun w hw=>h3 _ _ w (.inr (oX E hw)),fH h1 h2 fun _ _ _ k1 k2=>aiK hT k1 k2⟩,fun v hv=>?_⟩
 obtain⟨a,j1,j2⟩:=Fp k3 k4 v (List.mem_range.2 hv)
 obtain⟨f2,s2,bs2,i1,i2,i3⟩:=ib j1 j2
 exact⟨_,fun w hw=>i3 _ _ w (.inr (oX E hw)),fH i1 i2 fun _ _ _ k1 k2=>hm _ _ _ k1 k2⟩
theorem RQ:∀ {b:Nat} {f:Frame} {s:List Frame} {bs:List Nat},RR E.P E.ty b f s=some bs→(∀b∈bs,b=E.Wg)→E.W1 st b (G f (s++c::cs))
 |0,f,s,bs,h,hb=>by
  simp only[RR] at h
  obtain⟨f',s',wP,h1,h2,h3⟩:=ib h hb
  exact⟨rfl,_,fun w hw=>h3 _ _ w (.inr (oX E hw)),fH h1 h2 fun _ _ _ k1 k2=>HV hT k1 k2⟩
 |b+1,f,s,bs,h,hb=>by
  simp only[RR] at h
  obtain⟨⟨b1,k1,k2⟩,b2,k3,k4⟩:=Bi h hb
  obtain⟨f',s',wP,h1,h2,h3⟩:=ib k1 k2
  refine⟨rfl,⟨_,fun w hw=>h3 _ _ w (.inr (oX E hw)),fH h1 h2 fun _ _ _ k1 k2=>HV hT k1 k2⟩,fun v hv1 hv2=>?_⟩
  obtain⟨u,rfl⟩:∃u,v=u+1:=⟨v-1,by omega⟩
  obtain⟨a,j1,j2⟩:=Fp k3 k4 u (List.mem_range.2 (by omega))
  obtain⟨f2,s2,bs2,i1,i2,i3⟩:=ib j1 j2
  exact⟨_,fun w hw=>i3 _ _ w (.inr (oX E hw)),fH i1 i2 fun _ _ _ k1 k2=>aiN hT (ajm:=E.W1 st b) (fun _ _ _ m1 m2=>RQ m1 m2) k1 k2⟩
theorem HU{bs:List Nat}(h:Bd E.P E.ty E.max f=some bs)(hb:∀b∈bs,b=E.Wg):E.closes st (G f (c::cs)):=
 fH (iG:=[]) h hb fun _ _ _ k1 k2=>by
  obtain⟨f',s',wP,h1,h2,h3⟩:=ib k1 k2
  exact⟨rfl,_,fun w=>h3 _ _ w (.inl ⟨rfl,rfl⟩),fH h1 h2 fun _ _ _ k1 k2=>RQ hT k1 k2⟩
end close
theorem LD{L:Nat→Option Obj}{os:List ι}{s:St}{c:Frame}{bs:List Nat}(h:HX E.P E.ty os.length f=some bs)(hb:∀b∈bs,b=E.Wg)(Jl:os.length <E.max)
 (hT:TC E L Q 1 false os 0 (G (c.finish (.tuple #[])) cs) s):TC E L Q 0 false os 0 (G f (c::cs)) s:=by
 have qA:∀ {f:Frame} {iG:List Frame} {bs:List Nat},Ed E.P E.ty jF true none [(2,0)] f iG (goR E.P E.ty 300)=some bs→(∀b∈bs,b=E.Wg)→TC E L Q 1 false os 1 (G f (iG++c::cs)) s:=by
  intro f iG bs h hb
  obtain⟨f',s',wP,h1,h2,h3⟩:=ib h hb
  refine E3 (mh:=1) (d':=0) rfl rfl (fun w st sm hw hz _=>⟨w,h3 _ _ w (.inl ⟨rfl,rfl⟩),eQ.refl w,by obtain⟨rfl,rfl⟩:=hz rfl;exact hw⟩) (by intro e he;simp[Vl] at he;subst he;exact .inr (.inl rfl)) rfl id ?_
  exact U2 (c:=c) (cs:=cs) h1 true (fun g=>TC E L Q 1 false os 0 g s) hT fun g g' hg hg' bU hT'=>Wb hg (fun w _=>bU w) hT'
 refine NB (iG:=[]) h hb fun f1 s1 b1 k1 k2=>?_
 obtain⟨f',s',wP,h1,h2,h3⟩:=ib k1 k2
 refine E3 (mh:=0) (d':=1) rfl rfl (fun w st sm hw hz _=>⟨w,h3 _ _ w (.inl ⟨rfl,rfl⟩),eQ.refl w,by obtain⟨rfl,rfl⟩:=hz rfl;exact hw⟩) (by intro e he;simp[Vl] at he;subst he;exact .inl rfl) rfl id ?_
 refine NB h1 h2 fun f2 s2 b2 k1 k2=>?_
 obtain⟨f',s',wP,h1,h2,h3⟩:=ib k1 k2
 refine E3 (mh:=1) (d':=1) rfl rfl (fun w st sm hw hz _=>⟨_,h3 _ _ w (.inr ?_),eQ.set w 0 _,?_⟩) (by
  intro e he;simp[Vl] at he
  rcases he with rfl|rfl<;>exact n9 0 _) rfl (fun _=>Jl) ?_
 ·obtain⟨rfl,rfl⟩:=hz rfl
  exact oX E hw
 ·obtain⟨rfl,rfl⟩:=hz rfl
  exact Go.ConcR.WgAt.setSt hw _
 refine NB h1 h2 fun f3 s3 b3 k1 k2=>?_
 cases hz:Nat.beq os.length 0 with
 |false=>
  rw[hz] at k1;simp only[cond_false] at k1
  exact qA k1 k2
 |true=>
  rw[hz] at k1;simp only[cond_true] at k1
  obtain⟨f',s',wP,h1,h2,h3⟩:=ib k1 k2
  refine akK rfl (fun w hw=>h3 _ _ w (.inr (GF E hw)))<|NB h1 h2 fun f4 s4 b4 k1 k2=>qA k1 k2
end
def CA(P:Program):Class:=fun main T=>Closed P main T
def ac5:Code→Nat
 | .seq a b=>ac5 a+ac5 b+1
 |_=>0
def gP(l:List Code):List Code:=l.flatMap jb
section
variable {P:Program} {main:Bool} {T:Goroutine→St→Prop} {b:Frame} {k:List Item} {cs:List Frame} {a:Act} {s:St} {n LF:Nat} {D:List Deferred} {call:cd} {ops:Array Oper}
 {ρ:aT} {ce e:Env} {m:Mem} {F:Nat×Obj→Prop} {R:Nat→Option Obj}
abbrev On(T:Goroutine→St→Prop)(b:Frame)(a:Act)(l:List Code)(k:List Item)(cs:List Frame)(s:St):Prop:=T (G (aK b a (l.map .code++k)) cs) s
theorem nX(hT:Closed P main T){c0:Code}:∀ {l:List Code},gP l=c0::rest→(∀l',gP l'=rest→T (G (aK b a (.code c0::(l'.map .code++k))) cs) s)→On T b a l k cs s:=by
 intro l
 generalize hn:(l.map ac5).sum=q
 induction q using Nat.strongRecOn generalizing l with
 |_ q ih=>
  intro hl h
  cases l with
  |nil=>cases hl
  |cons c l=>
   cases hc:c with
   |seq x y=>
    subst hc
    refine hT.go rfl rfl (g':=G (aK b a ((x::y::l).map .code++k)) cs) (fun w=>by simp[G,stepG,stepG.exec,aK])<|ih ((x::y::l).map ac5).sum ?_ rfl ?_ h
    ·rw[←hn];simp[ac5];omega
    rw[←hl];simp[gP,jb]
   |_=>
    subst hc
    simp only[gP,List.flatMap_cons,jb,List.singleton_append,List.cons.injEq] at hl
    obtain⟨rfl,hl⟩:=hl
    exact h l hl
theorem dK(hT:Closed P main T)(hl:gP l= .region id ops false::rest)(h:∀l',gP l'=rest→T (G (aK b a (.inRegion ops (List.range ops.size)::(l'.map .code++k))) cs) s):On T b a l k cs s:=
 nX hT hl fun l' y8=>hT.go rfl rfl (g':=G (aK b a (.inRegion ops (List.range ops.size)::(l'.map .code++k))) cs) (fun w=>by simp[G,stepG,stepG.exec,aK]) (h l' y8)
theorem AE(hT:Closed P main T){c:Operand}{x y:Code}{t:Bool}(hl:gP l= .cond c x y::rest)(hc:a.eval c= .bool t)(h:∀l',gP l'=rest→T (G (aK b a (.code (if t then x else y)::(l'.map .code++k))) cs) s):On T b a l k cs s:=
 nX hT hl fun l' y8=>hT.go rfl rfl (g':=G (aK b a (.code (if t then x else y)::(l'.map .code++k))) cs) (fun w=>by
  have he:=kR b a (.code (.cond c x y)::(l'.map .code++k))
  simp only[aK] at he
  simp only[G,stepG,stepG.exec,aK,he,hc]) (h l' y8)
theorem vQ(hT:Closed P main T){c:Code}(hl:gP l= .block id c::rest)(h:∀l',gP l'=rest→On T b a [c] (.inBlock id::(l'.map .code++k)) cs s):On T b a l k cs s:=
 nX hT hl fun l' y8=>hT.go rfl rfl (g':=G (aK b a (.code c:: .inBlock id::(l'.map .code++k))) cs) (fun w=>by simp[G,stepG,stepG.exec,aK]) (show T (G (aK b a (.code c:: .inBlock id::(l'.map .code++k))) cs) s from h l' y8)
theorem CW(hT:Closed P main T)(h:T (G (aK b a k) cs) s):T (G (aK b a (.inBlock id::k)) cs) s:=
 hT.go rfl rfl (g':=G (aK b a k) cs) (fun w=>by simp[G,stepG,stepG.exec,aK]) h
theorem MN(hT:Closed P main T){c:Code}(hl:gP l= .loop c::rest)(h:∀l',gP l'=rest→On T b a [c] (.inLoop c::(l'.map .code++k)) cs s):On T b a l k cs s:=
 nX hT hl fun l' y8=>hT.go rfl rfl (g':=G (aK b a (.code c:: .inLoop c::(l'.map .code++k))) cs) (fun w=>by simp[G,stepG,stepG.exec,aK]) (show T (G (aK b a (.code c:: .inLoop c::(l'.map .code++k))) cs) s from h l' y8)
theorem zp(hT:Closed P main T){c:Code}(h:On T b a [c] (.inLoop c::k) cs s):T (G (aK b a (.inLoop c::k)) cs) s:=
 hT.go rfl rfl (g':=G (aK b a (.code c:: .inLoop c::k)) cs) (fun w=>by simp[G,stepG,stepG.exec,aK]) h
theorem NP(hT:Closed P main T)(h:T (G (aK b a k) cs) s):T (G (aK b a (.code .skip::k)) cs) s:=
 hT.go rfl rfl (g':=G (aK b a k) cs) (fun w=>by simp[G,stepG,stepG.exec,aK]) h
theorem NQ(hT:Closed P main T){k':List Item}(hk:exitTo id k=some k')(h:T (G (aK b a k') cs) s):T (G (aK b a (.code (.exit id)::k)) cs) s:=
 hT.go rfl rfl (g':=G (aK b a k') cs) (fun w=>by simp[G,stepG,stepG.exec,aK,hk]) h
theorem iy(hT:Closed P main T)(h:T (G (aK b a k) cs) s):T (G (aK b a (.inRegion ops []::k)) cs) s:=
 hT.go rfl rfl (g':=G (aK b a k) cs) (fun w=>by simp[G,stepG,stepG.exec,aK]) h
theorem qI(id:Nat):∀(l:List Code) (k:List Item),exitTo id (l.map .code++k)=exitTo id k
 | [],k=>rfl
 |c::l,k=>by
  rw[List.map_cons,List.cons_append]
  exact qI id l k
theorem sY(hT:Closed P main T){rest:List Nat}{o:Oper}(ho:ops[i]?=some o) (hw:Region.wanted o (yielded ops a.tmps)=true) (hk:b.kind≠ .early) (hb:b.roundOf=none)
 (h:bP P (execOp a.eval o) s (fun nx s'=>∃v,nx= .value v∧T (G (aK b (a.put o.dst v) (.inRegion ops rest::k)) cs) s') (fun _ _=>False)):T (G (aK b a (.inRegion ops (i::rest)::k)) cs) s:=by
 have jP:(b.kind==CallKind.early)=false:=by simpa using hk
 have gL:∀w,stepG P main (G (aK b a (.inRegion ops (i::rest)::k)) cs) w=stepG.apply P true (aK b a (.inRegion ops (i::rest)::k)) cs none (execOp a.eval o) w:=by
  intro w
  have he:=kR b a (.inRegion ops (i::rest)::k)
  simp only[aK] at he
  simp only[G,stepG,stepG.exec,aK,ho,Option.map_some,Option.getD_some,hw,if_true,stepG.oper,Frame.oper?,he]
  rw[hb]
 refine hT.step _ _ rfl fun w pR=>?_
 obtain⟨r,es,hr,hl⟩:=gR _ _ _ _ w #[] h pR
 rw[Array.empty_append] at hr
 have mW:=gL w
 simp only[stepG.apply,if_true,hr] at mW
 simp only[aK,jP,Bool.false_eq_true,if_false] at mW
 cases r with
 |ok nx w'=>
  obtain⟨s',ht,v,rfl,hv⟩:=hl
  simp only[GStep.after,Array.append_empty] at mW
  have mG:=fO b a ops i rest k v
  rw[ho] at mG
  simp only[Option.bind_some] at mG
  rw[←mG] at hv
  exact⟨_,_,_,s',mW,rfl,ht.sub (iK P b.fn es),hv⟩
 |halt hh w'=>
  obtain⟨s',ht,hu⟩:=hl
  exact hu.elim
theorem dA(o:Oper)(f:Nat→Option Bool)(h:o.guard=none):Region.wanted o f=true:=by unfold Region.wanted;rw[h]
end
def St.freeze(s:St):St:=⟨fun b=>match s.rw.find? (fun x=>x.1==b) with
 |some x=>some x.2
 |none=>s.ro b,[]⟩
theorem oO{l:List (Nat×Obj)}{b:Nat}{x:Nat×Obj}(h:l.find? (fun x=>x.1==b)=some x):x∈l∧x.1=b:=
 ⟨List.mem_of_find?_eq_some h,by simpa using List.find?_some h⟩
theorem wF{l:List (Nat×Obj)}(hn:(l.map (·.1)).Nodup){b:Nat}(h:(b,o)∈l):l.find? (fun x=>x.1==b)=some (b,o):=by
 induction l with
 |nil=>cases h
 |cons y l ih=>
  rw[List.map_cons,List.nodup_cons] at hn
  rcases List.mem_cons.1 h with rfl|h'
  ·simp
  have:y.1≠b:=fun e=>hn.1 (e▸List.mem_map.2 ⟨_,h',rfl⟩)
  rw[List.find?_cons_of_neg (by simpa using this)]
  exact ih hn.2 h'
theorem St.CJ(s:St):s.freeze.le s:=by
 refine⟨s.rw,by simp[St.freeze],fun b o h=>?_⟩
 simp only[St.freeze] at h
 split at h
 ·rename_i x hx
  obtain⟨h1,h2⟩:=oO hx
  cases h
  subst h2
  exact .inr h1
 exact .inl h
theorem St.nV{s:St}{b:Nat}(h:s.ro b=some o)(ha:∀b o,(b,o)∈s.rw→s.ro b=none):s.freeze.ro b=some o:=by
 simp only[St.freeze]
 split
 ·rename_i x hx
  obtain⟨h1,h2⟩:=oO hx
  subst h2
  rw[ha x.1 x.2 h1] at h;cases h
 exact h
theorem St.tv{s:St}{b:Nat}(h:(b,o)∈s.rw)(hn:(s.rw.map (·.1)).Nodup):s.freeze.ro b=some o:=by
 simp only[St.freeze,wF hn h]
section
variable {P:Program} {ρ:aT} {m:Mem} {F:Nat×Obj→Prop} {R:Nat→Option Obj} {s:St}
theorem Closed.jR(hT:Closed P main T)(hs:g.status= .running)(h:(∃w,aR s w)→T g s):T g s:=by
 by_cases ha:∃w,aR s w
 ·exact h ha
 exact hT.step _ _ hs fun w hw=>absurd ⟨w,hw⟩ ha
end
section
variable {P:Program} {main:Bool} {T:Goroutine→St→Prop} {b:Frame} {k:List Item} {cs:List Frame} {a:Act} {s:St} {n LF:Nat} {D:List Deferred} {call:cd} {ops:Array Oper}
 {ρ:aT} {ce e:Env} {m:Mem} {F:Nat×Obj→Prop} {R:Nat→Option Obj}
theorem PT(hT:Closed P main T){rest:List Nat}{o:Oper}(ho:ops[i]?=some o) (hg:o.guard=none) (hk:b.kind≠ .early) (hb:b.roundOf=none) {f:FuncId} (aA:o.op= .call ⟨.value (.func f),xs,ats⟩) (hf:FF P f)
 (h:T (G (Frame.enter P f (xs.map a.eval) .normal) (aK b a (.inRegion ops (i::rest)::k)::cs)) s):T (G (aK b a (.inRegion ops (i::rest)::k)) cs) s:=by
 have jP:(b.kind==CallKind.early)=false:=by simpa using hk
 have hw:Region.wanted o (yielded ops a.tmps)=true:=dA o _ hg
 have wo:bP P (execOp a.eval o) s (fun nx s'=>nx= .enter f (xs.map a.eval)∧s'=s) (fun _ _=>False):=by
  have e1:a.eval (.func f)= .func (.func f) #[] #[]:=rfl
  simp only[execOp,aA,resolve,e1,Deferred.ofValue,aa,ae,invoke]
  have:(#[]++xs.map a.eval:Array Value)++ #[]=xs.map a.eval:=by simp
  rw[this]
  exact ki hf ⟨rfl,rfl⟩
 have gL:∀w,stepG P main (G (aK b a (.inRegion ops (i::rest)::k)) cs) w=stepG.apply P true (aK b a (.inRegion ops (i::rest)::k)) cs none (execOp a.eval o) w:=by
  intro w
  have he:=kR b a (.inRegion ops (i::rest)::k)
  simp only[aK] at he
  simp only[G,stepG,stepG.exec,aK,ho,Option.map_some,Option.getD_some,hw,if_true,stepG.oper,Frame.oper?,he]
  rw[hb]
 refine hT.step _ _ rfl fun w pR=>?_
 obtain⟨r,es,hr,hl⟩:=gR _ _ _ _ w #[] wo pR
 rw[Array.empty_append] at hr
 have mW:=gL w
 simp only[stepG.apply,if_true,hr] at mW
 simp only[aK,jP,Bool.false_eq_true,if_false] at mW
 cases r with
 |ok nx w'=>
  obtain⟨s',ht,rfl,rfl⟩:=hl
  simp only[GStep.after,Array.append_empty] at mW
  exact⟨_,_,_,_,mW,rfl,ht.sub (iK P b.fn es),h⟩
 |halt hh w'=>
  obtain⟨s',ht,hu⟩:=hl
  exact hu.elim
def cN(P:Program):Frame:={(default:Frame) with fn:=P.funcs.size,defers:=[],mode:= .panicking [goexitEntry]}
theorem PB(P:Program):QuitsD P 1 0 (G (cN P) []):=by
 have hc:(cN P).catches P=false:=by
  simp[Frame.catches,cN]
  rfl
 refine .ctl (g':={(G (cN P) []) with status:= .finished}) rfl (fun w=>?_) ⟨rfl,rfl⟩
 have bU:stepG P false (G (cN P) []) w=unwind P false (cN P) [] none w:=rfl
 rw[bU]
 unfold unwind
 have h1:(cN P).defers=[]:=rfl
 have h2:(cN P).mode= .panicking [goexitEntry]:=rfl
 simp only[h1,h2,hc,Bool.false_eq_true,if_false]
 simp[goexitEntry,G]
theorem oe{fn:Func}(hm:fr.mode= .returning)(hd:fr.defers=[])(hk:fr.kind= .deferred)(hf:P.funcs[fr.fn]?=some fn) (hr:fn.results= #[]):QuitsD P 2 0 (G fr [cN P]):=by
 refine .ctl rfl (fun w=>?_) (PB P)
 have h1:∀tm,results fn tm=Sem.pure (.tuple #[]):=by intro tm;simp[results,hr];rfl
 rcases fr with ⟨fn',tmps,todo,defers,mode,kind,ro⟩
 simp only at hm hd hk hf
 subst hm hd hk
 simp only[G,stepG,unwind,hf,h1,Sem.runT,seen_none,GStep.after,doReturn,cN,goexitEntry,Array.append_empty]
end
structure Sb where
 f:FuncId
 n:Nat
 cl:List Code
 o7:Array Oper
 o:Oper
 sc:Operand
 sv:Operand
 done:FuncId
def goE(P:Program)(ty:TypeId):Nat→Frame→List Frame→Option (Frame×List Frame)
 |0,fr,iG=>some (fr,iG)
 |n+1,fr,iG=>match PW P ty jF fr iG with
  |some (.go nW gx,[],[],[])=>goE P ty n nW gx
  |_=>none
theorem U5{T:Goroutine→Prop}(hs:∀g g',g.status= .running→g'.status= .running→(∀w,stepG P main g w= .go g' w #[])→T g'→T g):∀ {n:Nat} {fr nW:Frame} {iG gx:List Frame},goE P ty n fr iG=some (nW,gx)→T (G nW (gx++cs))→T (G fr (iG++cs))
 |0,fr,nW,iG,gx,h,hT=>by simp only[goE,Option.some.injEq,Prod.mk.injEq] at h;obtain⟨rfl,rfl⟩:=h;exact hT
 |n+1,fr,nW,iG,gx,h,hT=>by
  simp only[goE] at h
  split at h<;>try (cases h;done)
  rename_i f1 s1 h0
  refine hs _ _ rfl rfl (fun w=>?_) (U5 hs h hT)
  have:=rj (W:=0) (w:=w) h0 (by simp) (.inl ⟨rfl,rfl⟩) cs main
  simp only[OV.is] at this
  rw[this];rfl
theorem H6{f:FuncId}(hf:FF P f)(ca:Array Value)(w:World):stepG P main (born P {target:= .fn (.func f) ca,args:= #[]}) w= .go (G (Frame.enter P f (#[]++ca) .deferred) [cN P]) w #[]:=by
 obtain⟨fn,h1,h2,h3⟩:=hf.ff
 have bV:(callFunc f (#[]++ca)).runT P w #[]=(.ok (.enter f (#[]++ca)) w,#[]):=by
  show (Sem.program _).runT P w #[]=_
  simp only[Sem.runT,Sem.bind,h1,h2,h3,Bool.false_eq_true,if_false]
  rfl
 simp only[born,stepG,unwind,callDeferred,invoke,bV,GStep.after,seen_none,Bool.false_and,Bool.false_eq_true,if_false,Array.append_empty,G,cN]
structure LU where
 f:FuncId
 n:Nat
 b:Frame
 q0:Array Oper
 o0:Oper
 rest:Code
 q1:Array Oper
 oc:Oper
 cx:Operand
 wait:FuncId
structure LU.OK(P:Program)(ty:TypeId)(x:LU):Prop where
 ff:BD P x.f=true
 fn:∃fn,P.funcs[x.f]?=some fn∧fn.results= #[]∧fn.norace=false
 bf:x.b.fn=x.f∧x.b.kind= .deferred∧x.b.roundOf=none
 enter:∀p1 p2:Value,goE P ty 3 (Frame.enter P x.f #[p1,p2] .deferred) []=some (Frame.enter P x.wait #[p1] .normal,[aK x.b (A x.n (fS 0 [p1,p2]) []) [.inRegion x.q0 [0],.code x.rest]])
 op0:x.q0[0]?=some x.o0
 rest:∃id,gP [x.rest]=[.region id x.q1 false]
 size:x.q1.size=2
 op:x.q1[1]?=some x.oc∧x.oc.guard=none∧∃ats,x.oc.op= .call {callee:= .builtin .close,args:= #[x.cx],argTypes:=ats}
theorem gD(h:gP l=[]):l=[]:=by
 cases l with
 |nil=>rfl
 |cons y l=>
  exfalso
  have:∀c:Code,jb c≠[]:=by
   intro c
   induction c with
   |seq p q ihp ihq=>simp[jb,ihp]
   |_=>simp[jb]
  simp only[gP,List.flatMap_cons,List.append_eq_nil_iff] at h
  exact this y h.1
theorem CU{b:Frame}(h:b.roundOf=none)(a:Act)(todo:List Item):aK b a todo=b.at a todo:=by simp[aK,Frame.at,h]
def TO(P:Program):Sem Next→Nat→Option (Obj×Value)
 | .new o k,b=>match bu P (k b) with
  |some (.value v)=>some (o,v)
  |_=>none
 | .program k,b=>TO P (k P) b
 |_,_=>none
theorem Gw{f:Nat→Value}{s:St}{K:Next→St→Prop}{E:Halt→St→Prop}(hK:∀b,¬s.knows b→K (.value (f b)) ⟨s.ro,(b,o)::s.rw⟩):∀(x:Sem Next),(∀b,TO P x b=some (o,f b))→bP P x s K E:=by
 intro x
 induction x with
 |new o' k ih=>
  intro h b hb
  have h':=h b
  simp only[TO] at h'
  split at h'<;>try (cases h';done)
  rename_i v hv
  simp only[Option.some.injEq,Prod.mk.injEq] at h'
  obtain⟨rfl,rfl⟩:=h'
  exact oB hv (hK b hb)
 |program k ih=>intro h;exact ih P h
 |_=>intro h;have:=h 0;simp[TO] at this
structure rN where
 f:FuncId
 n:Nat
 fn:Func
 o0:Array Oper
 o1:Array Oper
 o2:Array Oper
 o3:Array Oper
 o4:Array Oper
 o5:Array Oper
 o6:Array Oper
 o7:Array Oper
 o8:Array Oper
 o9:Array Oper
 o10:Array Oper
 o11:Array Oper
 B8:Array Oper
 o13:Array Oper
 o14:Array Oper
 a1:Oper
 a2:Oper
 a6:Oper
 a7:Oper
 a9:Oper
 Sa:Oper
 lb:Code
 DJ:Code
 rb:Code
 uK:Code
 c4:Operand
 c12:Operand
 b0:Nat
 b1:Nat
 b2:Nat
 b3:Nat
 fin:List Code
 add:FuncId
 an9:Operand
 sp:Operand
 sk:Operand
 rc:Operand
 wk:Sb
 cl:LU
 ty:TypeId
 mx:Nat
def cO(l:List Code)(i:Nat):Array Oper:=match l[i]? with
 |some (.region _ ops _)=>ops
 |_=> #[]
def eP(o:Array Oper)(i:Nat):Oper:=(o[i]?).getD default
def aeI(l:List Code)(i:Nat):Nat×Code:=match l[i]? with
 |some (.block id (.loop c))=>(id,c)
 |_=>(0,.skip)
def YD(l:List Code)(i:Nat):Nat×Code:=match l[i]? with
 |some (.block id c)=>(id,c)
 |_=>(0,.skip)
def aiD(l:List Code)(i:Nat):Operand:=match l[i]? with
 |some (.cond c _ _)=>c
 |_=> .func 0
def H4(o:Oper):FuncId:=match o.op with
 | .call ⟨.value (.func f),_,_⟩=>f
 | .defer ⟨.value (.func f),_,_⟩=>f
 |_=>0
def aqG(o:Oper)(i:Nat):Operand:=match o.op with
 | .call ⟨_,xs,_⟩=>(xs[i]?).getD (.func 0)
 |_=> .func 0
def aGX(o:Oper):Operand:=match o.op with
 | .go ⟨.value x,_,_⟩=>x
 |_=> .func 0
def aqj(o:Oper):FuncId:=match o.op with
 | .makeFunc (.func f) _ _=>f
 |_=>0
def chanOf(o:Oper):Operand:=match o.op with
 | .recv _ c _=>c
 | .send c _=>c
 |_=> .func 0
def arP(o:Oper):Operand:=match o.op with
 | .send _ x=>x
 |_=> .func 0
def typeOf(o:Oper):TypeId:=match o.op with
 | .alloc t=>t
 |_=>0
def codeOf(P:Program)(f:FuncId):List Code:=match P.funcs[f]? with
 |some fn=>match fn.body with
  |some c=>jb c
  |none=>[]
 |none=>[]
def tmpsOf(P:Program)(f:FuncId):Nat:=match P.funcs[f]? with
 |some fn=>fn.ntmps
 |none=>0
def ar1(P:Program)(f:FuncId):Code:=match P.funcs[f]? with
 |some fn=>match fn.body with
  |some (.seq _ c)=>c
  |_=> .skip
 |none=> .skip
def awB(P:Program)(f:FuncId)(mx:Nat):rN:=
 let l:=codeOf P f
 let lb:=aeI l 4
 let ll:=jb lb.2
 let bb:=YD ll 2
 let bl:=jb bb.2
 let rb:=aeI l 8
 let rl:=jb rb.2
 let rbb:=YD rl 2
 let rbl:=jb rbb.2
 let wf:=aqj (eP (cO bl 2) 0)
 let wl:=codeOf P wf
 let cf:=aqj (eP (cO l 5) 0)
 let cl:=codeOf P cf
 {f,n:=tmpsOf P f,fn:=(P.funcs[f]?).getD default,o0:=cO l 0,o1:=cO l 1,o2:=cO l 2,o3:=cO l 3,o4:=cO ll 0,o5:=cO bl 0,o6:=cO bl 1,o7:=cO bl 2,o8:=cO ll 3,
  o9:=cO l 5,o10:=cO l 6,o11:=cO l 7,B8:=cO rl 0,o13:=cO rbl 0,o14:=cO rbl 1,
  a1:=eP (cO l 1) 0,a2:=eP (cO l 2) 0,a6:=eP (cO bl 1) 0,a7:=eP (cO bl 2) 1,a9:=eP (cO l 5) 1,Sa:=eP (cO rl 0) 0,
  lb:=lb.2,DJ:=bb.2,rb:=rb.2,uK:=rbb.2,c4:=aiD ll 1,c12:=aiD rl 1,b0:=lb.1,b1:=bb.1,b2:=rb.1,b3:=rbb.1,fin:=(l.drop 9).dropLast,
  add:=H4 (eP (cO bl 1) 0),an9:=aqG (eP (cO bl 1) 0) 0,sp:=aGX (eP (cO bl 2) 1),sk:=aGX (eP (cO l 5) 1),rc:=chanOf (eP (cO rl 0) 0),
  wk:={f:=wf,n:=tmpsOf P wf,cl:=wl.dropLast,o7:=cO wl (wl.length-1),o:=eP (cO wl (wl.length-1)) 2,sc:=chanOf (eP (cO wl (wl.length-1)) 2),sv:=arP (eP (cO wl (wl.length-1)) 2),done:=H4 (eP (cO wl 0) 0)},
  cl:={f:=cf,n:=tmpsOf P cf,b:={(default:Frame) with fn:=cf,kind:= .deferred,roundOf:=none},q0:=cO cl 0,o0:=eP (cO cl 0) 0,rest:=ar1 P cf,q1:=cO cl 1,oc:=eP (cO cl 1) 1,cx:=aqG (eP (cO cl 1) 1) 0,wait:=H4 (eP (cO cl 0) 0)},
  ty:=typeOf (eP (cO l 2) 0),mx}
theorem xe{k:Nat}:∀b∈List.replicate k W,b=W:=fun b hb=>(List.mem_replicate.1 hb).2
section
variable {gX:Os} {cz:Array (Nat×ByteArray)} {P:Program} {T:Goroutine→St→Prop} {b:Frame} {k:List Item} {cs:List Frame} {a:Act} {s:St} {n LF:Nat} {call:cd} {ops:Array Oper}
 {ρ:aT} {ce e:Env} {m:Mem} {x:rN} {Wg Ch:Nat} {L:Nat→Option Obj} {Q:Machine→Outcome→World→Trace→Prop}
theorem Fo{rest:List Nat}{o:Oper}(ho:ops[i]?=some o) (hg:o.guard=none) (hk:b.kind≠ .early) (hb:b.roundOf=none) {y:Operand} (aA:o.op= .go ⟨.value y,#[],ats⟩) {f:FuncId} (hy:a.eval y= .func (.func f) #[] ca) (w:World):
 stepG P main (G (aK b a (.inRegion ops (i::rest)::k)) cs) w= .spawn (G (aK b (a.put o.dst undef) (.inRegion ops rest::k)) cs) (born P {target:= .fn (.func f) ca,args:= #[]}) w #[]:=by
 have hw:Region.wanted o (yielded ops a.tmps)=true:=dA o _ hg
 have hx:execOp a.eval o=Sem.pure (.spawn {target:= .fn (.func f) ca,args:= #[]}):=by
  simp only[execOp,aA,resolve,hy,Deferred.ofValue]
  show Sem.pure (Next.spawn {target:= .fn (.func f) ca,args:= #[]++Array.map a.eval #[]})=_
  simp
 rw[CU hb,CU hb]
 have:=stepG_spawn (P:=P) (main:=main) (b:=b) (a:=a) (k:=k) (cs:=cs) (w:=w) (w':=w) (d:={target:= .fn (.func f) ca,args:= #[]}) ho hw hk (rest:=rest) (by rw[hx];rfl) rfl
 rw[this,listed_none (by rw[hx];rfl)]
end
theorem tO:∀ {x:Sem α} {a:α},bu P x=some a→∀(w:World) (es:Array Event),x.runT P w es=(.ok a w,es)
 | .pure _,_,h,w,es=>by simp only[bu,Option.some.injEq] at h;subst h;rfl
 | .program k,_,h,w,es=>tO (x:=k _) h w es
def C0(P:Program):Class:=fun main T=>main=true∧∃gX cz Post,T=T0 P gX cz Post
theorem xE:∀main T,C0 P main T→Closed P main T:=by
 rintro _ _ ⟨rfl,gX,cz,Post,rfl⟩
 exact sN P gX cz Post
abbrev CP(P:Program):Class:=fun main T=>Closed P main T
theorem e8:∀main T,CP P main T→Closed P main T:=fun _ _ h=>h
abbrev Cells:=List (Nat×Obj)
variable {Φ:Value→Cells→Prop} {B X rw' rw:Cells}
def Sub(ro aG:Nat→Option Obj):Prop:=∀b o,ro b=some o→aG b=some o
theorem Sub.refl(ro:Nat→Option Obj):Sub ro ro:=fun _ _ h=>h
theorem Sub.trans{a b c:Nat→Option Obj}(h:Sub a b)(k:Sub b c):Sub a c:=fun x o hx=>k x o (h x o hx)
structure abA(fr B:Cells)(ro:Nat→Option Obj)(s1 s:St):Prop where
 rw:s.rw.Perm (s1.rw++fr)
 aC:∀b o,s1.ro b=some o→s.ro b=some o∨(b,o)∈B
 keep:Sub ro s.ro
theorem xC(hT:Closed P main T){s:St}(hg:g.status= .running)(h:(∃w,aR s w)→T g s):T g s:=by
 by_cases hw:∃w,aR s w
 ·exact h hw
 exact hT.step g s hg fun w pR=>absurd ⟨w,pR⟩ hw
theorem AZ(hT:Closed P main T){fr:Cells}(hB:∀x∈B,x∈fr)(ro:Nat→Option Obj):
 Closed P main (fun g s1=>g.status= .running→∀s,abA fr B ro s1 s→T g s) where
 step:=fun g s1 hg h _ s hc=>by
  refine hT.step g s hg fun w hw=>?_
  have Ov:∀x,x∈s.rw↔x∈s1.rw∨x∈fr:=fun x=>by rw[hc.rw.mem_iff,List.mem_append]
  have mo:=(hc.rw.map (·.1)).nodup_iff.1 hw.nodup
  rw[List.map_append,List.nodup_append] at mo
  obtain⟨hn1,hn2,hn3⟩:=mo
  have aDN:∀b o o',(b,o)∈s1.rw→(b,o')∈fr→False:=fun b o o' h1 h2=>hn3 b (List.mem_map.2 ⟨_,h1,rfl⟩) b (List.mem_map.2 ⟨_,h2,rfl⟩) rfl
  have aTJ:aR s1 w:=by
   refine⟨fun b o hb=>?_,fun b o hb=>hw.rw b o ((Ov _).2 (.inl hb)),hn1,fun b o hb=>?_⟩
   ·rcases hc.aC b o hb with h1|h1
    ·exact hw.ro b o h1
    exact hw.rw b o ((Ov _).2 (.inr (hB _ h1)))
   cases hr:s1.ro b with
   |none=>rfl
   |some o'=>
    rcases hc.aC b o' hr with h1|h1
    ·rw[hw.apart b o ((Ov _).2 (.inl hb))] at h1;cases h1
    exact(aDN b o o' hb (hB _ h1)).elim
  obtain⟨g',w',es,yE,bU,bV,ht,hT'⟩:=h w aTJ
  have agw:∀b o,(b,o)∈fr→b <w.heap.size:=fun b o hb=>hw.lt (.inr ((Ov _).2 (.inr hb)))
  have au9:∀b o,(b,o)∈fr→¬s1.jo b:=fun b o hb ⟨o',Fb⟩=>aDN b o' o Fb hb
  have aub:∀b,s.ro b≠none→¬s1.jo b:=fun b hb ⟨o',Fb⟩=>hb (hw.apart b o' ((Ov _).2 (.inl Fb)))
  have afE:∀b,s.ro b≠none→b <w.heap.size:=fun b hb=>by
   cases hr:s.ro b with
   |none=>exact absurd hr hb
   |some o=>exact hw.lt (.inl hr)
  have aDA:∀b o,(b,o)∈fr→w'.heap[b]?=some o:=fun b o hb=>by
   rw[ht.frame b (agw b o hb) (au9 b o hb)]
   exact hw.rw b o ((Ov _).2 (.inr hb))
  classical
  let aG:Nat→Option Obj:=fun b=>if ∃o,(b,o)∈fr then none else match yE.ro b with
   |some o=>some o
   |none=>s.ro b
  have auc:∀b o,aG b=some o→¬(∃o,(b,o)∈fr)∧(yE.ro b=some o∨(yE.ro b=none∧s.ro b=some o)):=fun b o hb=>by
   simp only[aG] at hb
   split at hb
   ·cases hb
   rename_i hn
   refine⟨hn,?_⟩
   cases h1:yE.ro b with
   |none=>rw[h1] at hb;exact .inr ⟨rfl,hb⟩
   |some o2=>rw[h1] at hb;exact .inl hb
  have aTI:aR ⟨aG,yE.rw++fr⟩ w':=by
   refine⟨fun b o hb=>?_,fun b o hb=>?_,?_,fun b o hb=>?_⟩
   ·obtain⟨_,h1| ⟨_,h2⟩⟩:=auc b o hb
    ·exact ht.jR.ro b o h1
    have dX:s.ro b≠none:=by rw[h2];simp
    rw[ht.frame b (afE b dX) (aub b dX)]
    exact hw.ro b o h2
   ·rcases List.mem_append.1 hb with hb|hb
    ·exact ht.jR.rw b o hb
    exact aDA b o hb
   ·show ((yE.rw++fr).map (·.1)).Nodup
    rw[List.map_append,List.nodup_append]
    refine⟨ht.jR.nodup,hn2,fun x hx y hy e=>?_⟩
    obtain⟨⟨b,o⟩,h1,rfl⟩:=List.mem_map.1 hx
    obtain⟨⟨b2,o2⟩,h2,rfl⟩:=List.mem_map.1 hy
    dsimp only at e;subst e
    rcases ht.own b ⟨o,h1⟩ with h3|h3
    ·exact absurd (agw b o2 h2) (by omega)
    exact au9 b o2 h2 h3
   show aG b=none
   rcases List.mem_append.1 hb with hb|hb
   ·cases hr:aG b with
    |none=>rfl
    |some o'=>
     obtain⟨hn,h1| ⟨_,h2⟩⟩:=auc b o' hr
     ·rw[ht.jR.apart b o hb] at h1;cases h1
     have dX:s.ro b≠none:=by rw[h2];simp
     rcases ht.own b ⟨o,hb⟩ with h3|h3
     ·exact absurd (afE b dX) (by omega)
     exact(aub b dX h3).elim
   simp only[aG]
   rw[if_pos ⟨o,hb⟩]
  have aDS:abA fr B ro yE ⟨aG,yE.rw++fr⟩:=by
   refine⟨.refl _,fun b o hb=>?_,fun b o hb=>?_⟩
   ·by_cases hf:∃o,(b,o)∈fr
    ·obtain⟨o2,Iw⟩:=hf
     have e1:=ht.jR.ro b o hb
     rw[aDA b o2 Iw] at e1
     cases e1
     rcases ht.Mm b (by rw[hb];simp) with h1|h1|h1
     ·exact absurd (agw b _ Iw) (by omega)
     ·cases hr:s1.ro b with
      |none=>exact absurd hr h1
      |some o3=>
       rcases hc.aC b o3 hr with h3|h3
       ·rw[hw.apart b _ ((Ov _).2 (.inr Iw))] at h3;cases h3
       have e3:=hw.rw b o3 ((Ov _).2 (.inr (hB _ h3)))
       rw[hw.rw b _ ((Ov _).2 (.inr Iw))] at e3
       cases e3
       exact .inr h3
     exact(au9 b _ Iw h1).elim
    left
    show aG b=some o
    simp only[aG]
    rw[if_neg hf,hb]
   have h1:=hc.keep b o hb
   have dX:s.ro b≠none:=by rw[h1];simp
   have hf:¬ ∃o,(b,o)∈fr:=fun⟨o2,Iw⟩=>dX (hw.apart b o2 ((Ov _).2 (.inr Iw)))
   show aG b=some o
   simp only[aG]
   rw[if_neg hf]
   cases h2:yE.ro b with
   |none=>exact h1
   |some o2=>
    have e1:=ht.jR.ro b o2 h2
    rw[ht.frame b (afE b dX) (aub b dX),hw.ro b o h1] at e1
    exact e1.symm
  refine⟨g',w',es,⟨aG,yE.rw++fr⟩,bU,bV,⟨aTI,ht.size,fun b hb hn=>?_,fun b hb=>?_,fun b hb=>?_,ht.os,ht.output,ht.tape,fun e he=>?_,ht.low⟩,hT' bV _ aDS⟩
  ·exact ht.frame b hb fun⟨o,ho⟩=>hn ⟨o,(Ov _).2 (.inl ho)⟩
  ·obtain⟨o,ho⟩:=hb
   rcases List.mem_append.1 ho with ho|ho
   ·rcases ht.own b ⟨o,ho⟩ with h3| ⟨o3,h3⟩
    ·exact .inl h3
    exact .inr ⟨o3,(Ov _).2 (.inl h3)⟩
   exact .inr ⟨o,(Ov _).2 (.inr ho)⟩
  ·have hb:aG b≠none:=hb
   cases hr:aG b with
   |none=>exact absurd hr hb
   |some o=>
    obtain⟨hn,h1| ⟨_,h2⟩⟩:=auc b o hr
    ·rcases ht.Mm b (by rw[h1];simp) with h3|h3| ⟨o3,h3⟩
     ·exact .inl h3
     ·cases h4:s1.ro b with
      |none=>exact absurd h4 h3
      |some o4=>
       rcases hc.aC b o4 h4 with h5|h5
       ·exact .inr (.inl (by rw[h5];simp))
       exact absurd ⟨_,hB _ h5⟩ hn
     exact .inr (.inr ⟨o3,(Ov _).2 (.inl h3)⟩)
    exact .inr (.inl (by rw[h2];simp))
  have SB:=ht.vv e he
  have apR:∀b,(∃o,(b,o)∈s1.rw)→s.jo b:=fun b ⟨o,ho⟩=>⟨o,(Ov _).2 (.inl ho)⟩
  have aCx:∀b,s1.ro b≠none→s.ro b≠none∨s.jo b:=fun b hb=>by
   cases h4:s1.ro b with
   |none=>exact absurd h4 hb
   |some o4=>
    rcases hc.aC b o4 h4 with h5|h5
    ·exact .inl (by rw[h5];simp)
    exact .inr ⟨o4,(Ov _).2 (.inr (hB _ h5))⟩
  unfold Ip at*
  split at SB
  ·refine⟨SB.1,?_⟩
   rcases SB.2 with h1|h1| ⟨h1,h2⟩
   ·exact .inl h1
   ·exact .inr (.inl (apR _ h1))
   rcases aCx _ h2 with h3|h3
   ·exact .inr (.inr ⟨h1,h3⟩)
   exact .inr (.inl h3)
  ·refine⟨SB.1,?_⟩
   rcases SB.2 with h1|h1| ⟨h1,h2⟩
   ·exact .inl h1
   ·exact .inr (.inl (apR _ h1))
   rcases aCx _ h2 with h3|h3
   ·exact .inr (.inr ⟨h1,h3⟩)
   exact .inr (.inl h3)
  ·exact SB
  exact SB
 mono:=fun g s1 yE hl h bV s hc=>by
  refine xC hT bV fun⟨w,hw⟩=>?_
  obtain⟨R,hR,AP⟩:=hl
  have Ov:∀x,x∈s.rw↔x∈yE.rw∨x∈fr:=fun x=>by rw[hc.rw.mem_iff,List.mem_append]
  have avQ:∀x,x∈R→x∈s.rw:=fun x hx=>(Ov x).2 (.inl (hR.mem_iff.2 (List.mem_append_right _ hx)))
  classical
  let pK:Nat→Option Obj:=fun b=>if hx:∃o,(b,o)∈R then some (Classical.choose hx) else s.ro b
  have GZ:∀b o,(b,o)∈R→pK b=some o:=fun b o hb=>by
   have hx:∃o,(b,o)∈R:=⟨o,hb⟩
   simp only[pK]
   rw[dif_pos hx]
   have h1:=hw.rw b _ (avQ _ (Classical.choose_spec hx))
   rw[hw.rw b o (avQ _ hb)] at h1
   cases h1;rfl
  have iB:∀b o,s.ro b=some o→pK b=some o:=fun b o hb=>by
   simp only[pK]
   rw[dif_neg]
   ·exact hb
   rintro⟨o2,Iw⟩
   rw[hw.apart b o2 (avQ _ Iw)] at hb;cases hb
  refine hT.mono g ⟨pK,s1.rw++fr⟩ s ⟨R,?_,fun b o hb=>?_⟩ (h bV _ ⟨.refl _,fun b o hb=>?_,fun b o hb=>iB b o (hc.keep b o hb)⟩)
  ·refine hc.rw.trans ((List.Perm.append_right fr hR).trans ?_)
   rw[List.append_assoc,List.append_assoc]
   exact List.Perm.append_left _ List.perm_append_comm
  ·simp only[pK] at hb
   split at hb
   ·rename_i hx
    simp only[Option.some.injEq] at hb
    exact .inr (hb▸Classical.choose_spec hx)
   exact .inl hb
  rcases AP b o hb with h1|h1
  ·exact(hc.aC b o h1).imp (iB b o) id
  exact .inl (GZ b o h1)
theorem Fn.frame{f:FuncId}{s1 s:St}{R:Ending→St→Prop}{fr:Cells}{ro:Nat→Option Obj}(hf:Fn (CP P) P f args s1 R)(hB:∀x∈B,x∈fr)(hc:abA fr B ro s1 s):
 Fn (CP P) P f args s (fun en s'=>∃yE,R en yE∧abA fr B ro yE s'):=
 fun main T hT c cs k1 k2=>hf main _ (AZ hT hB ro) c cs (fun v yE hv _ s' tq=>k1 v s' ⟨yE,hv,tq⟩) (fun ch yE hv _ s' tq=>k2 ch s' ⟨yE,hv,tq⟩) rfl s hc
def eG(P:Program)(f:FuncId)(args:List Value)(ro:Nat→Option Obj)(own:Cells)(Φ:Value→Cells→Prop):Prop:=
 Fn (CP P) P f ⟨args⟩ ⟨ro,own⟩ (fun en s'=>∃v X,en= .returned v∧s'=⟨ro,X⟩∧Φ v X)
abbrev dt(P:Program)(f:FuncId)(args:List Value)(ro:Nat→Option Obj)(V:Value):Prop:=eG P f args ro [] (fun v X=>v=V∧X=[])
theorem eG.mono{f:FuncId}{args:List Value}{ro:Nat→Option Obj}{own:Cells}{Φ':Value→Cells→Prop}(h:eG P f args ro own Φ)(hk:∀v X,Φ v X→Φ' v X):eG P f args ro own Φ':=
 Fn.mono h fun _ _ ⟨v,X,h1,h2,h3⟩=>⟨v,X,h1,h2,hk v X h3⟩
theorem NG{ro:Nat→Option Obj}:Ext ⟨ro,[]⟩ ⟨ro,rw⟩:=fun _ _ h=>h.elim .inl (fun h=>by cases h)
theorem uu{ro aG:Nat→Option Obj}(h:Sub ro aG):Ext ⟨ro,[]⟩ ⟨aG,[]⟩:=fun b o hb=>hb.elim (fun hb=> .inl (h b o hb)) (fun hb=>by cases hb)
def bE(ro:Nat→Option Obj)(v:Value)(sz:Nat)(enc:α→List Value)(ps:List α):Prop:=
 ∃a b o cap,v= .slice a ps.length cap∧ps.length≤cap∧(∀k,k <ps.length→a=some ⟨b,o,none⟩)∧∀i p,ps[i]?=some p→cB ⟨ro,[]⟩ b (o+i*sz) sz (enc p)
theorem bE.nil(ro:Nat→Option Obj)(sz:Nat)(enc:α→List Value)(a:Option Addr)(cap:Nat):bE ro (.slice a 0 cap) sz enc []:=⟨a,0,0,cap,rfl,Nat.zero_le _,fun k h=>absurd h (Nat.not_lt_zero k),fun i p hp=>by simp at hp⟩
theorem bE.up{ro aG:Nat→Option Obj}{v:Value}{enc:α→List Value}{ps:List α}(h:bE ro v sz enc ps)(hs:Sub ro aG):bE aG v sz enc ps:=by
 obtain⟨a,b,o,cap,h1,h4,h2,h3⟩:=h
 exact⟨a,b,o,cap,h1,h4,h2,fun i p hp=>(h3 i p hp).ext (uu hs)⟩
section rules
variable {P:Program} {C:Class} {fn:FuncId} {aB:Option Nat} {Q:Post} {s:St} {n:Nat} {env:Env} {D:List Deferred}
variable {ops:Array Oper} {i:Nat} {rest:List Nat} {dst:Option Tmp} {ty:TypeId} {pos:String} {c8:Array Edge} {g:Option (Nat×Bool)}
variable {T:TypeId} {d:TypeDesc} {sz bC:Nat} {z:List Value} {ag:Bool} {ro:Nat→Option Obj} {rw:Cells}
theorem ab.more{a:Act}(hC:∀main T,C main T→Closed P main T)(hl:s.le s')(h:ab C fn aB ops todo Q a s):ab C fn aB ops todo Q a s':=
 fun main T hT b k cs h1 h2 h3 h4=>(hC _ _ hT).mono _ _ _ hl (h main T hT b k cs h1 h2 h3 h4)
theorem alr{a:Act}(hC:∀main T,C main T→Closed P main T)(h:(∃w,aR s w)→ab C fn aB ops todo Q a s):ab C fn aB ops todo Q a s:=
 fun main T hT b k cs h1 h2 h3 h4=>xC (hC _ _ hT) rfl fun hw=>h hw main T hT b k cs h1 h2 h3 h4
theorem aqX{a:Act}{c:Code}(hC:∀main T,C main T→Closed P main T)(h:(∃w,aR s w)→Wp C fn aB c Q a s):Wp C fn aB c Q a s:=
 fun main T hT b k cs h1 h2 h3 h4=>xC (hC _ _ hT) rfl fun hw=>h hw main T hT b k cs h1 h2 h3 h4
theorem ah0{f:FuncId}{R:Ending→St→Prop}(hC:∀main T,C main T→Closed P main T)(h:(∃w,aR s w)→Fn C P f args s R):Fn C P f args s R:=
 fun main T hT c cs h1 h2=>xC (hC _ _ hT) rfl fun hw=>h hw main T hT c cs h1 h2
theorem Yg(hp:rw.Perm (X++s.rw))(hw:∃w,aR ⟨s.ro,rw⟩ w):∃aG,Sub s.ro aG∧(∀x∈X,aG x.1=some x.2)∧(⟨aG,s.rw⟩:St).le ⟨s.ro,rw⟩:=by
 classical
 obtain⟨w,hw⟩:=hw
 have zy:∀x,x∈X→x∈rw:=fun x hx=>hp.mem_iff.2 (List.mem_append_left _ hx)
 refine⟨fun b=>if hx:∃o,(b,o)∈X then some (Classical.choose hx) else s.ro b,fun b o hb=>?_,fun x hx=>?_,X,hp.trans List.perm_append_comm,fun b o hb=>?_⟩
 ·simp only
  rw[dif_neg]
  ·exact hb
  rintro⟨o2,Iw⟩
  have:=hw.apart b o2 (zy _ Iw)
  rw[show s.ro b=none from this] at hb;cases hb
 ·obtain⟨b,o⟩:=x
  have lU:∃o,(b,o)∈X:=⟨o,hx⟩
  simp only
  rw[dif_pos lU]
  have h1:=hw.rw b _ (zy _ (Classical.choose_spec lU))
  rw[hw.rw b o (zy _ hx)] at h1
  cases h1;rfl
 simp only at hb
 split at hb
 ·rename_i hx
  simp only[Option.some.injEq] at hb
  exact .inr (hb▸Classical.choose_spec hx)
 exact .inl hb
theorem Y0{a:Act}{c:Code}(hC:∀main T,C main T→Closed P main T)(hp:rw'.Perm (X++rw))(h:∀aG,Sub ro aG→(∀x∈X,aG x.1=some x.2)→Wp C fn aB c Q a ⟨aG,rw⟩):Wp C fn aB c Q a ⟨ro,rw'⟩:=
 aqX hC fun hw=>by
  obtain⟨aG,h1,h2,h3⟩:=Yg (s:=⟨ro,rw⟩) hp hw
  exact(h aG h1 h2).more hC h3
theorem TG{a:Act}(hC:∀main T,C main T→Closed P main T)(hp:rw'.Perm (X++rw))(h:∀aG,Sub ro aG→(∀x∈X,aG x.1=some x.2)→ab C fn aB ops todo Q a ⟨aG,rw⟩):ab C fn aB ops todo Q a ⟨ro,rw'⟩:=
 alr hC fun hw=>by
  obtain⟨aG,h1,h2,h3⟩:=Yg (s:=⟨ro,rw⟩) hp hw
  exact(h aG h1 h2).more hC h3
theorem eG.use{f:FuncId}{own fr:Cells}(hp:s.rw.Perm (own++fr))(hB:∀x∈B,x∈fr)(hf:∀aC,Sub s.ro aC→(∀x∈B,aC x.1=some x.2)→eG P f vs aC own Φ):
 Fn (CP P) P f ⟨vs⟩ s (fun en s'=>∃v X,en= .returned v∧Φ v X∧(⟨s.ro,X++fr⟩:St).le s'):=by
 refine ah0 e8 fun⟨w,hw⟩=>?_
 classical
 have zy:∀x,x∈B→x∈s.rw:=fun x hx=>hp.mem_iff.2 (List.mem_append_right _ (hB x hx))
 let aC:Nat→Option Obj:=fun b=>if hx:∃o,(b,o)∈B then some (Classical.choose hx) else s.ro b
 have h1:Sub s.ro aC:=fun b o hb=>by
  simp only[aC]
  rw[dif_neg]
  ·exact hb
  rintro⟨o2,Iw⟩
  rw[hw.apart b o2 (zy _ Iw)] at hb;cases hb
 have h2:∀x∈B,aC x.1=some x.2:=fun⟨b,o⟩ hx=>by
  have lU:∃o,(b,o)∈B:=⟨o,hx⟩
  simp only[aC]
  rw[dif_pos lU]
  have h3:=hw.rw b _ (zy _ (Classical.choose_spec lU))
  rw[hw.rw b o (zy _ hx)] at h3
  cases h3;rfl
 refine Fn.mono (Fn.frame (fr:=fr) (B:=B) (ro:=s.ro) (s:=s) (hf aC h1 h2) hB ⟨hp,fun b o hb=>?_,Sub.refl _⟩) fun en s' DN=>?_
 ·simp only[aC] at hb
  split at hb
  ·rename_i hx
   simp only[Option.some.injEq] at hb
   exact .inr (hb▸Classical.choose_spec hx)
  exact .inl hb
 obtain⟨yE,⟨v,X,rfl,rfl,qt⟩,hc⟩:=DN
 exact⟨v,X,rfl,qt,[],by simpa using hc.rw,fun b o hb=> .inl (hc.keep b o hb)⟩
theorem aee(hC:∀main T,C main T→Closed P main T){f:FuncId}{own fr:Cells}(ho:ops[i]?=some ⟨dst,.call ⟨.value x,xs,at_⟩,ty,pos,c8,g⟩) (hw:ax ops n env g=true)
 (hv:bn n env x=some (.func (.func f) fi ca)) (ff:FF P f) (hx:vv n env xs=some vs) (r8:fi++⟨vs⟩++ca=⟨ws⟩) (hp:s.rw.Perm (own++fr)) (hB:∀x∈B,x∈fr) (hf:∀aC,Sub s.ro aC→(∀x∈B,aC x.1=some x.2)→eG P f ws aC own Φ)
 (h:∀v X,Φ v X→ab C fn aB ops rest Q (A n (upd dst v env) D) ⟨s.ro,X++fr⟩):ab C fn aB ops (i::rest) Q (A n env D) s:=
 ud hC ho hw hv ff hx r8 ((eG.use hp hB hf).weaken hC) (fun v' s' hr=>by obtain⟨v,X,e,h1,h2⟩:=hr;cases e;exact(h _ X h1).more hC h2) (fun ch s' hr=>by obtain⟨_,_,e,_⟩:=hr;cases e) (fun s' hr=>by obtain⟨_,_,e,_⟩:=hr;cases e)
theorem dt.use{f:FuncId}{V:Value}{sz:St}(hez:Ext s sz)(hf:∀aC,(∀b o,s.has b o→aC b=some o)→dt P f vs aC V):Fn (CP P) P f ⟨vs⟩ sz (fun e s'=>e= .returned V∧sz.le s'):=by
 refine ah0 e8 fun⟨w,hw⟩=>?_
 refine Fn.mono (eG.use (s:=sz) (own:=[]) (fr:=sz.rw) (B:=sz.rw) (.refl _) (fun _ h=>h) (fun aC h1 h2=>hf aC fun b o hb=>?_)) fun en s' DN=>?_
 ·rcases hez b o hb with h3|h3
  ·exact h1 b o h3
  exact h2 _ h3
 obtain⟨v,X,e,⟨h1,h2⟩,h3⟩:=DN
 subst h1 h2
 exact⟨e,h3⟩
theorem P3(hC:∀main T,C main T→Closed P main T){f:FuncId}{V:Value}{s0:St}(ho:ops[i]?=some ⟨dst,.call ⟨.value x,xs,at_⟩,ty,pos,c8,g⟩) (hw:ax ops n env g=true)
 (hv:bn n env x=some (.func (.func f) fi ca)) (ff:FF P f) (hx:vv n env xs=some vs) (r8:fi++⟨vs⟩++ca=⟨ws⟩) (hez:Ext s0 s) (hf:∀aC,(∀b o,s0.has b o→aC b=some o)→dt P f ws aC V) (h:ab C fn aB ops rest Q (A n (upd dst V env) D) s):ab C fn aB ops (i::rest) Q (A n env D) s:=
 ud hC ho hw hv ff hx r8 ((dt.use hez hf).weaken hC) (fun v' s' hr=>by obtain⟨e,h1⟩:=hr;cases e;exact h.more hC h1) (fun ch s' hr=>by cases hr.1) (fun s' hr=>by cases hr.1)
theorem FQ{ro aC:Nat→Option Obj}(h:∀b o,(⟨ro,rw⟩:St).has b o→aC b=some o):Sub ro aC:=fun b o hb=>h b o (.inl hb)
theorem az.kZ{v:Value}{T:TypeId}{enc:α→List Value}{ps:List α}{L:Cells}{aC:Nat→Option Obj}(h:az v sz T enc ps L)(hL:∀x∈L,aC x.1=some x.2):bE aC v sz enc ps:=by
 obtain⟨a,b,o,cap,h1,h2,h3⟩:=h.sl (s:=⟨aC,[]⟩) fun x hx=> .inl (hL x hx)
 refine⟨a,b,o,cap,h1,?_,h2,h3⟩
 rcases h with ⟨_,g2,_⟩| ⟨b',l,aVJ,g1,_,_,g4,_⟩
 ·subst g2;exact Nat.zero_le _
 rw[g1] at h1;cases h1;exact g4
end rules
section rules
variable {P:Program} {C:Class} {fn:FuncId} {aB:Option Nat} {Q:Post} {s:St} {n:Nat} {env:Env} {D:List Deferred}
variable {ops:Array Oper} {i:Nat} {rest:List Nat} {dst:Option Tmp} {ty:TypeId} {pos:String} {c8:Array Edge} {g:Option (Nat×Bool)}
variable {T:TypeId} {d:TypeDesc} {sz bC:Nat} {z:List Value} {ag:Bool}
theorem TK(hC:∀main T,C main T→Closed P main T)(ho:ops[i]?=some ⟨dst,.range T x,ty,pos,c8,g⟩) (hw:ax ops n env g=true) (tf:TF P T .string sz bC z ag) (hx:bn n env x=some (.string b))
 (h:∀r,¬s.knows r→ab C fn aB ops rest Q (A n (upd dst (.pointer (some ⟨r,0,none⟩)) env) D) ⟨s.ro,(r,.stringIter b 0)::s.rw⟩):ab C fn aB ops (i::rest) Q (A n env D) s:=by
 refine bS hC ho hw (by simp) ?_
 simp only[execOp,Instr.range,aa,aZ tf,aE hx,ae,oz]
 intro r hr
 have:=h r hr
 rw[←aX] at this
 exact this
theorem ZV(hC:∀main T,C main T→Closed P main T){r:Nat}{L R:Cells}(ho:ops[i]?=some ⟨dst,.next x true,ty,pos,c8,g⟩) (hw:ax ops n env g=true) (hx:bn n env x=some (.pointer (some ⟨r,0,none⟩))) (hs:s.rw=L++(r,.stringIter b p)::R) (hp:p <b.size)
 (h:ab C fn aB ops rest Q (A n (upd dst (.tuple ⟨[.bool true,.int .i64 p,.int .i32 (Utf8.decode b p).1]⟩) env) D) ⟨s.ro,L++(r,.stringIter b (p+(Utf8.decode b p).2))::R⟩):ab C fn aB ops (i::rest) Q (A n env D) s:=by
 refine bS hC ho hw (by simp) ?_
 simp only[execOp,Instr.next,aa,aE hx]
 refine cG (o:= .stringIter b p) (.inr (by rw[hs];simp)) rfl rfl ?_
 simp only[aa,hp,if_true]
 refine eH (o:= .stringIter b (p+(Utf8.decode b p).2)) rfl hs rfl ?_
 rw[←aX] at h
 exact h
theorem ZW(hC:∀main T,C main T→Closed P main T){r:Nat}{L R:Cells}(ho:ops[i]?=some ⟨dst,.next x true,ty,pos,c8,g⟩) (hw:ax ops n env g=true) (hx:bn n env x=some (.pointer (some ⟨r,0,none⟩))) (hs:s.rw=L++(r,.stringIter b p)::R) (hp:¬p <b.size)
 (h:ab C fn aB ops rest Q (A n (upd dst (.tuple ⟨[.bool false]⟩) env) D) s):ab C fn aB ops (i::rest) Q (A n env D) s:=by
 refine bS hC ho hw (by simp) ?_
 simp only[execOp,Instr.next,aa,aE hx]
 refine cG (o:= .stringIter b p) (.inr (by rw[hs];simp)) rfl rfl ?_
 simp only[aa,hp,if_false]
 rw[←aX] at h
 exact h
end rules
end Go.L
