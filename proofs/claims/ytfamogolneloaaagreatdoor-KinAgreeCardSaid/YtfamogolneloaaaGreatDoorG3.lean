/- Part 3 of the proof. -/
import Derived.Test.YtfamogolneloaaaGreatDoorG2
import Derived.Conc.CrowdStepC
import Derived.Conc.Own2
import Derived.Conc.TokenWalk
set_option maxRecDepth 100000
set_option linter.all false
namespace Go.L
open Go Go.Conc
open Go.ConcR (KK wgBlock WgAt stA smA rd wr)
variable {P:Program} {s cs iB:List Frame} {f fr nP:Frame} {Q:Machine→Outcome→World→Trace→Prop} {ty:TypeId} {main:Bool} {α:Type} {rest l:List Code} {W lU id i p n off pc sz:Nat} {T:Goroutine→St→Prop} {vs ws:List Value} {x:Operand} {xs:Array Operand} {g:Goroutine} {ca args fi:Array Value} {todo:List Nat} {b:ByteArray} {z:Value} {ats at_:Array TypeId} {s':St} {o:Obj} {st sm:Int}
section
variable {ι:Type} {E:dO ι} {L:Nat→Option Obj} {K:Nat→St} {gs:Array Goroutine} {w:World} {t:Trace} {D:List (an ι)} {d0:Nat} {main:Goroutine} {sl:Option (Nat×Nat)}
 {ic n:Nat} {g:Goroutine}
def HC(E:dO ι)(pc:Nat)(K:Nat→St)(w:World)(t:Trace):Prop:=
 (∃sn tm,w.heap[E.Ch]?=some (.chan 0 #[] true sn sn tm))∧¬(K 0).knows E.Ch∧t.act? pc=some (.close E.Ch)∧t.heard pc∧(∀a,NoRelease a t)∧w.os=E.os∧w.output=E.out
theorem GN(E:dO ι)(pc:Nat):Xz (HC E pc) where
 grow:=fun K w t u h hu=>⟨h.1,h.2.1,by rw[act?_old (lt_of_act? h.2.2.1)];exact h.2.2.1,(heard_old (lt_of_act? h.2.2.1)).2 h.2.2.2.1,fun a=>(h.2.2.2.2.1 a).app fun op ay=>hu op ay a,h.2.2.2.2.2⟩
 drawn:=fun K w t d h=>h
 le:=fun K w t s h hl=>⟨h.1,by rw[aC];exact fun hk=>h.2.1 (hl.knows hk),h.2.2⟩
 own:=fun K w t s' w' es u h ht hu=>by
  obtain⟨⟨sn,tm,hc⟩,hk,ha,hh,hn,Pr⟩:=h
  have cG:=lt_size hc
  refine⟨⟨sn,tm,by rw[ht.frame _ cG fun ho=>hk (.inr ho)];exact hc⟩,?_,by rw[act?_old (lt_of_act? ha)];exact ha,(heard_old (lt_of_act? ha)).2 hh,fun a=>(hn a).app fun op ay=>hu op ay a,ht.os.trans Pr.1,ht.output.trans Pr.2⟩
  rw[aC]
  rintro(h'|h')
  ·rcases ht.KR _ h' with h1|h1|h1
   ·omega
   ·exact hk (.inl h1)
   exact hk (.inr h1)
  rcases ht.own _ h' with h1|h1
  ·omega
  exact hk (.inr h1)
theorem X5{r:an ι}(h1:r.cnt=0)(h4:r.c4=0)(h3:r.c3=0)(h2:r.c2=0)(hc:r≠ .closer):∃q d c,r= .leave q d c:=by
 cases r with
 |leave q d c=>exact⟨q,d,c,rfl⟩
 |closer=>exact absurd rfl hc
 |st k n=>cases k<;>simp[an.cnt,an.c4,an.c3,an.c2] at h1 h4 h3 h2
 |_=>exact absurd h1 (by simp[an.cnt])
theorem AcqAll.known(hA:AcqAll E t D ic)(hn:NoRelease (stA E.Wg) t){u:Trace}(hpc:t.size≤pc){y:MemOp}(hy:(t++u)[pc]?=some y) (hyg:y.g=ic+1) {r:an ι} (hi:D[i]?=some r) (hc:r.cur=true)
 (hp:t.g? p=some (i+1)) (hct:t.counts p):HappensBefore (t++u) p pc:=by
 obtain⟨q,h1,h2,h3,h4⟩:=hA
 obtain⟨x,hx,hxq⟩:=h4 i r hi hc
 have hq:=lt_of_act? h1
 have hqg:=h2
 obtain⟨oq,hoq,hgq⟩:=Option.map_eq_some_iff.1 h2
 have ZI:HappensBefore t x q:= .single (.inr ⟨.marked hxq (.inr hx.act) h1 (fun k _ _=>hn k),hx.heard,h3⟩)
 have last:HappensBefore (t++u) q pc:=hb_po (by omega) (by rw[getElem?_append_old hq];exact hoq) hy (hgq.trans hyg.symm)
 have hle:p≤x:=Nat.le_of_not_lt fun cG=>hx.after p cG hp hct
 rcases Nat.lt_or_ge p x with cG|PU
 ·exact((hb_app u (.trans (.single (.inl ⟨cG,_,hp,hx.g⟩)) ZI)).trans last)
 obtain rfl:p=x:=by omega
 exact(hb_app u ZI).trans last
def adk(qc:Nat):an ι→Nat
 | .leave q _ _=>q
 |_=>qc
theorem Inv.close(h:Inv E L K gs w t D 0 (some (ic,.run .leaf,n)) main d0){main':Goroutine}(hm:∀(a a':Goroutine) (w':World),mayWake E.P a=true→(a'.status= .running∨a'.status= .finished)→(∃sn tm,w'.heap[E.Ch]?=some (.chan 0 #[] true sn sn tm))→woken E.P a a' w' main=main')
 (hg:gs[ic+1]?=some g):
 ∃kY w' u q,runT E.P (crowd gs w sl) (ic+1)=(.next (crowd kY w' sl),u)∧Lv E.P (jh (t.size+1)) L (fun j=>if j=0 then K 0 else ⟨fun _=>none,[]⟩) kY w' (t++u) q∧kY[0]?=some main'∧Deaf (t++u) 0=d0∧
  HC E (t.size+1) (fun j=>if j=0 then K 0 else ⟨fun _=>none,[]⟩) w' (t++u)∧kH D=[]:=by
 obtain⟨hic,Gl,yR,⟨gc,EP,pS⟩,TG⟩:=h.sy.Eo
 obtain rfl:gc=g:=by rw[hg] at EP;exact(Option.some.inj EP).symm
 obtain⟨st,sm,ha,m8⟩:=h.sy.cells
 obtain⟨e1,e4,e3,e2,rfl,rfl⟩:=m8.run rfl trivial
 obtain⟨_,hs,hmw,g',bS,q,hq⟩:=pS
 obtain⟨sn,rc,tm,hc⟩:=h.sy.chan
 have atU:=h.sy.bal _ _ _ hc
 subst atU
 have hA:=TG ⟨_,rfl⟩
 have cG:=(List.getElem?_eq_some_iff.1 hic).1
 have Te:∀k r,D[k]?=some r→k≠ic→∃q d c,r= .leave q d c:=fun k r hk dR=>by
  refine X5 ?_ ?_ ?_ ?_ fun e=>dR (Gl k (e▸hk))
  ·have:=tS an.cnt hk;omega
  ·have:=tS an.c4 hk;omega
  ·have:=tS an.c3 hk;omega
  have:=tS an.c2 hk;omega
 have gL:=bS w sn sn tm hc
 have bU:=runT_crowd_go (P:=E.P) (sl:=sl) (i:=ic+1) hg (by simpa using gL)
 have q1:MemOp.ofEvents (ic+1) gc.frame.fn gc.frame.place #[⟨.obj E.Ch,false,true⟩,⟨.obj E.Ch,true,true⟩]= #[{g:=ic+1,fn:=gc.frame.fn,pos:=gc.frame.place,act:= .access ⟨.obj E.Ch,false,true⟩},{g:=ic+1,fn:=gc.frame.fn,pos:=gc.frame.place,act:= .close E.Ch}]:=by rw[ofEvents_eq];simp[MemAct.ofEvent]
 rw[q1] at bU
 generalize hu:(#[{g:=ic+1,fn:=gc.frame.fn,pos:=gc.frame.place,act:= .access ⟨.obj E.Ch,false,true⟩},{g:=ic+1,fn:=gc.frame.fn,pos:=gc.frame.place,act:= .close E.Ch}]:Trace)=u at bU
 have JU:∀op∈u,op.g=ic+1∧(op.act= .access ⟨.obj E.Ch,false,true⟩∨op.act= .close E.Ch):=by rw[←hu];intro op ay;simp at ay;rcases ay with rfl|rfl<;>simp
 have Wn:∀op∈u,∀x,op.act.touch?=some x→x=⟨.obj E.Ch,false,.atomic⟩:=fun op ay x hx=>by
  rcases(JU op ay).2 with e|e<;>rw[e] at hx
  ·simp only[MemAct.touch?,if_true,Option.some.injEq] at hx;exact hx.symm
  cases hx
 have PI:∀op∈u,∀m,op.act≠ .mark m:=fun op ay m=>by rcases(JU op ay).2 with e|e<;>rw[e]<;>simp
 have aE9:E.Ch <w.heap.size:=lt_size hc
 have sQ:(w.heap.setIfInBounds E.Ch (.chan 0 #[] true sn sn tm))[E.Ch]?=some (.chan 0 #[] true sn sn tm):=by simp[aE9]
 have hpc:(t++u)[t.size+1]?=some {g:=ic+1,fn:=gc.frame.fn,pos:=gc.frame.place,act:= .close E.Ch}:=by rw[←hu];simp
 have hle:∀j,((fun j=>if j=0 then K 0 else ⟨fun _=>none,[]⟩) j:St).le (K j):=fun j=>by
  by_cases e:j=0
  ·subst e;exact St.le_refl _
  simp only[if_neg e];exact⟨(K j).rw,by simp,fun b o hb=>(by cases hb)⟩
 have aQN:∀x:Goroutine,(x.status= .running∨x.status= .finished)→woken E.P gc g' {w with heap:=w.heap.setIfInBounds E.Ch (.chan 0 #[] true sn sn tm)} x=x:=fun x hx=>by
  unfold Go.Conc.woken
  split
  ·exact again_running _ hx
  rfl
 have kM:∀i r,D[i]?=some r→i≠ic→jh (t.size+1) (t++u) (i+1):=fun i r hi dR=>by
  obtain⟨x,hx,fA⟩:=h.base.ok i r hi
  obtain⟨qq,d,c,rfl⟩:=Te i r hi dR
  refine⟨by rw[←hu];simp,?_⟩
  cases c with
  |false=>exact .inl ((fA.2.2.2.2 rfl).other fun op ay=>by rw[(JU op ay).1];omega)
  |true=>
   refine .inr fun p hp hct=>?_
   obtain⟨op,ho,hgo⟩:=Option.map_eq_some_iff.1 hp
   rcases getElem?_append_cases ho with ⟨Tg,_⟩| ⟨_,iX⟩
   ·exact hA.known (h.sy.norel _) (Nat.le_succ _) hpc rfl hi rfl (by rw[←g?_old (u:=u) Tg];exact hp) ((counts_old Tg).1 hct)
   rw[(JU op iX).1] at hgo;omega
 refine⟨_,_,u,D.map (adk q),bU,⟨?_,by simp[h.base.size],fun k x hk=>?_,fun i b hi hk=>?_,fun op ay=>?_⟩,?_,?_,⟨⟨sn,tm,sQ⟩,h.sy.kC 0,?_,?_,fun a=>(h.sy.norel a).app fun op ay=>PI op ay _,h.base.same.1,h.base.same.2⟩,?_⟩
 ·refine(h.base.fit.beside E.Ch (ic+1) h.sy.kC h.sy.lC aE9 (by simp) (fun b hb _=>by simp[Ne.symm hb]) (fun op ay=>(JU op ay).1) fun op ay x hx=>?_).le hle
  obtain rfl:=Wn op ay x hx
  refine⟨rfl,fun sd p a uG hc=>h.sy.plain _ (.inr ⟨ic,_,rfl,hic,rfl⟩) p a uG (.inr (by rw[hc.1];rfl)) ?_⟩
  rcases hc.2.2.2 with h3|h3|h3
  ·exact h3
  ·cases h3
  cases h3.2.2
 ·rw[List.getElem?_map] at hk
  obtain⟨r,hr,rfl⟩:=Option.map_eq_some_iff.1 hk
  by_cases dR:k=ic
  ·subst dR
   rw[hic] at hr
   cases hr
   refine⟨g',0,by simp[h.base.size,cG],hq,by rw[gq _ _ _ PI];exact yR,by rw[←hu];simp,.inr fun p hp hct=>?_⟩
   obtain⟨op,ho,hgo⟩:=Option.map_eq_some_iff.1 hp
   rcases Nat.lt_or_ge p (t.size+1) with Tg|PU
   ·exact hb_po Tg ho hpc hgo
   have hpe:p=t.size+1:=by
    have:=lt_size ho
    rw[←hu] at this
    simp at this
    omega
   subst hpe
   obtain⟨y,hy,_⟩:=hct
   obtain⟨o',EM,lK⟩:=touch_of hy
   rw[hpc] at EM;cases EM
   cases lK
  obtain⟨x,hx,fA⟩:=h.base.ok k r hr
  have bV:=kM k r hr dR
  obtain⟨qq,d,c,rfl⟩:=Te k r hr dR
  exact⟨x,d,by rw[gv (by omega) hx,aQN x fA.2.1.status],fA.2.1,by rw[gq _ _ _ PI];exact fA.2.2.1,bV⟩
 ·simp only[if_neg hi] at hk
  rcases hk with hk| ⟨o,ho⟩
  ·exact hk rfl
  cases ho
 ·rw[Array.size_setIfInBounds,Array.size_map]
  rcases Array.mem_append.1 ay with h'|h'
  ·exact h.base.ops op h'
  rw[(JU op h').1,h.base.size];omega
 ·rw[gv (by omega) h.main,hm _ _ _ hmw hq.status ⟨sn,tm,sQ⟩]
 ·rw[gq _ _ _ PI];exact h.deaf
 ·rw[act?_of hpc]
 ·refine⟨ic+1,by simp[Trace.g?,hpc],?_⟩
  have e2:t++u=(t++ #[({g:=ic+1,fn:=gc.frame.fn,pos:=gc.frame.place,act:= .access ⟨.obj E.Ch,false,true⟩}:MemOp)])++ #[({g:=ic+1,fn:=gc.frame.fn,pos:=gc.frame.place,act:= .close E.Ch}:MemOp)]:=by rw[←hu,Array.append_assoc];rfl
  have e3:=gq t (ic+1) #[({g:=ic+1,fn:=gc.frame.fn,pos:=gc.frame.place,act:= .access ⟨.obj E.Ch,false,true⟩}:MemOp)] (by intro op ay m;simp only[List.mem_toArray,List.mem_singleton] at ay;subst ay;simp)
  rw[e2,deaf_old (by simp)]
  unfold Deaf at e3 yR
  rw[Array.size_append] at e3
  exact e3.trans yR
 unfold kH
 rw[List.filterMap_eq_nil_iff]
 intro r hr
 obtain⟨k,hk⟩:=List.getElem?_of_mem hr
 by_cases dR:k=ic
 ·subst dR;rw[hic] at hk;cases hk;rfl
 obtain⟨qq,d,c,rfl⟩:=Te k r hk dR;rfl
end
section
variable {ι:Type} {E:dO ι} {L:Nat→Option Obj} {K:Nat→St} {gs:Array Goroutine} {w w':World} {t u:Trace} {D:List (an ι)} {pend d0:Nat} {cl:zk} {main:Goroutine} {sl:Option (Nat×Nat)}
 {i:Nat} {g g':Goroutine} {es:Array Event}
def PLt(mx:Nat):List (an ι)×zk→List (an ι)×zk→Prop:=Prod.Lex (One uk) (InvImage Eu (nA mx))
theorem PLt.wf(mx:Nat):WellFounded (PLt (ι:=ι) mx):=(Prod.lex ⟨_,One.wf uk.wf⟩ ⟨_,InvImage.wf (nA mx) Eu.wf⟩).wf
theorem Inv.other(h:Inv E L K gs w t D pend cl main d0)(hm:gP E main)(hg:gs[i+1]?=some g) (hs:g.status= .running) (Av:D[i]?≠some (.back .leaf)) (Df:∀n,cl≠some (i,.run .leaf,n))
 (hw:(∃o,D[i]?=some (.work o .leaf))→main.status= .running):
 ∃K' kY w' u D' cl',runT E.P (crowd gs w sl) (i+1)=(.next (crowd kY w' sl),u)∧Inv E L K' kY w' (t++u) D' pend cl' main d0∧K' 0=K 0∧kH D'=kH D∧cl'.isSome=cl.isSome∧PLt E.max (D',cl') (D,cl)∧∀o,an.gI o∈D'→an.gI o∈D∨main.status= .running:=by
 have cG:i <D.length:=by have:=lt_size hg;have:=h.base.size;omega
 have hD:D[i]?=some D[i]:=List.getElem?_eq_getElem cG
 have fin:qJ E L K D pend cl main d0 (crowd gs w sl) sl t (i+1)→
  ∃K' kY w' u D' cl',runT E.P (crowd gs w sl) (i+1)=(.next (crowd kY w' sl),u)∧Inv E L K' kY w' (t++u) D' pend cl' main d0∧K' 0=K 0∧kH D'=kH D∧cl'.isSome=cl.isSome∧PLt E.max (D',cl') (D,cl)∧∀o,an.gI o∈D'→an.gI o∈D∨main.status= .running:=by
  rintro⟨K',kY,w',u,D',cl',h1,h2,h3,h4,h5,h6,h7,h8⟩
  refine⟨K',kY,w',u,D',cl',h1,h2,h3,h4,?_,Prod.Lex.left _ _ h5,h8⟩
  cases hc:cl with
  |none=>rw[h6 hc]
  |some x=>have:=h7 (by rw[hc];simp);cases cl'<;>simp_all
 obtain⟨x,hx,fA⟩:=h.base.ok i _ hD
 obtain rfl:x=g:=by rw[hg] at hx;exact(Option.some.inj hx).symm
 generalize hr:D[i]=r at hD fA
 match r,hD,fA with
 | .leave q d c,hD,fA=>exact fin (h.leave hm hD hg hs)
 | .work o (.node f),hD,fA=>exact fin (h.work hm hD hg)
 | .work o .leaf,hD,fA=>exact fin (h.XW (hw ⟨o,hD⟩) hD hg)
 | .gI o,hD,⟨_,uX,qv,v,zs,X,Y,e,_⟩=>rw[e] at hs;cases hs
 | .back (.node f),hD,fA=>exact fin (h.back hm hD hg)
 | .back .leaf,hD,fA=>exact absurd hD Av
 | .st k (n+1),hD,fA=>exact fin (h.aqb hm hD hg)
 | .st .r0 0,hD,fA=>exact fin (h.r0 hm hD hg)
 | .st .k1 0,hD,fA=>exact fin (h.k1 hm hD hg)
 | .st .d1 0,hD,fA=>exact fin (h.d1 hm hD hg)
 | .st .d2 0,hD,fA=>exact fin (h.d2 hm hD hg)
 | .st .d3 0,hD,fA=>exact fin (h.d3 hm hD hg)
 | .st .d4 0,hD,fA=>exact fin (h.d4 hm hD hg)
 | .closer,hD,fA=>
  have iY:=h.sy.Eo
  match cl,h,iY,Df with
  |none,h,iY,_=>exact(iY _ (List.mem_of_getElem? hD)).elim
  |some (ic,c,n),h,⟨_,hu,_,_,_⟩,Df=>
   have e:=hu i hD
   subst e
   obtain⟨K',kY,w',u,c',n',h1,h2,h3,h4⟩:=h.closer (sl:=sl) hm hg hs fun e=>Df n (by rw[e])
   exact⟨K',kY,w',u,D,_,h1,h2,h3,rfl,rfl,Prod.Lex.right _ h4,fun _ h=> .inl h⟩
theorem Inv.awake(h:Inv E L K gs w t D pend cl main d0)(hm:gP E main):∀x∈gs,Go.Conc.awake x:=by
 intro x hx
 obtain⟨j,hj,rfl⟩:=Array.mem_iff_getElem.1 hx
 have hj':gs[j]?=some gs[j]:=Array.getElem?_eq_getElem hj
 intro k
 cases j with
 |zero=>
  rw[h.main] at hj'
  rw[←Option.some.inj hj']
  rcases hm with e| ⟨m,z,rfl⟩
  ·rw[e];simp
  simp[parked]
 |succ j=>
  have cG:j <D.length:=by have:=h.base.size;omega
  have hD:D[j]?=some D[j]:=List.getElem?_eq_getElem cG
  obtain⟨y,hy,fA⟩:=h.base.ok j _ hD
  rw[hj'] at hy
  rw[Option.some.inj hy]
  by_cases hb:∃o,D[j]= .gI o
  ·obtain⟨o,e⟩:=hb
   rw[e] at fA
   obtain⟨_,uX,qv,v,zs,X,Y,rfl,_⟩:=fA
   simp[parked]
  by_cases hc:D[j]= .closer
  ·have iY:=h.sy.Eo
   match cl,iY with
   |none,iY=>
    have:=iY D[j] (List.mem_of_getElem? hD)
    rw[hc] at this
    exact this.elim
   |some (ic,c,n),⟨_,h2,_,⟨gc,EP,pS⟩,_⟩=>
    have e:=h2 j (by rw[hD,hc])
    subst e
    rw[hj',hy] at EP
    obtain rfl:=Option.some.inj EP
    by_cases afn:c= .blk
    ·subst afn
     obtain⟨_,uX,aol,e⟩:=pS
     rw[e];simp
    rw[CK.ui pS afn];simp
  rcases fA.running (fun o e=>hb ⟨o,e⟩) hc with e|e<;>rw[e]<;>simp
theorem Inv.le0(h:Inv E L K gs w t D pend cl main d0){s:St}(hl:s.le (K 0)):Inv E L (fR K 0 s) gs w t D pend cl main d0:=by
 have hle:∀j,(fR K 0 s j).le (K j):=fun j=>by
  by_cases e:j=0
  ·subst e;rw[aC];exact hl
  rw[aF _ _ e];exact St.le_refl _
 refine⟨⟨h.base.fit.le hle,h.base.size,fun k r hk=>?_,fun k hk b hb=>h.base.far k hk b ((hle k).knows hb),h.base.ops,h.base.same⟩,
  ⟨fun j hj=>h.sy.kW j ((hle j).knows hj),fun j hj=>h.sy.kC j ((hle j).knows hj),h.sy.lW,h.sy.lC,h.sy.ne,h.sy.norel,h.sy.plain,h.sy.said,h.sy.cells,h.sy.BZ,h.sy.chan,h.sy.bal,?_⟩,h.main,h.deaf⟩
 ·rw[aF _ _ (by omega)];exact h.base.ok k r hk
 have iY:=h.sy.Eo
 match cl,iY with
 |none,iY=>exact iY
 |some (ic,c,n),⟨h1,h2,h3,⟨gc,EP,pS⟩,h5⟩=>exact⟨h1,h2,h3,⟨gc,EP,by rw[aF _ _ (by omega)];exact pS⟩,h5⟩
def TC(E:dO ι)(L:Nat→Option Obj)(Q:Machine→Outcome→World→Trace→Prop)(pend:Nat)(b:Bool)(os:List ι)(d0:Nat)(g:Goroutine)(s:St):Prop:=
 ∀K gs w t D cl sl,cl.isSome=b→Inv E L K gs w t D pend cl g d0→kH D=os→s.le (K 0)→Ends E.P Q (crowd gs w sl) t
theorem wR{b:Bool}{os:List ι}{s:St}(hs:g.status= .running)
 (h:∀K gs w t D cl sl m,cl.isSome=b→Inv E L K gs w t D pend cl g d0→kH D=os→K 0=s→stepT E.P m=runT E.P (crowd gs w sl) 0→Ends E.P Q m t)
 (iM:b=true→pend=0∧d0=0∧(os=[]→∀pc,TL E.P (jh pc) L (HC E pc) Q g s)):TC E L Q pend b os d0 g s:=by
 intro K gs w t D cl sl hb hI ho hle
 have key:∀μ:List (an ι)×zk,∀K gs w t sl,μ.2.isSome=b→Inv E L K gs w t μ.1 pend μ.2 g d0→kH μ.1=os→K 0=s→Ends E.P Q (crowd gs w sl) t:=by
  intro μ
  induction μ using (PLt.wf E.max).induction with
  |_ μ ih=>
   obtain⟨D,cl⟩:=μ
   intro K gs w t sl hb hI ho hK
   simp only at hb hI ho
   obtain⟨i,fq,d,Q7,da,Gm,bS⟩:=crowd_pick (P:=E.P) (gs:=gs) (w:=w) (sl:=sl) (hI.awake (.inl hs)) ⟨0,g,hI.main,hs⟩
   have yT:=hI.at d
   cases i with
   |zero=>exact h K gs _ t D cl Q7 _ hb yT ho hK bS
   |succ i=>
    by_cases Rt:D[i]?=some (.back .leaf)
    ·obtain⟨n,h1,h2,h3⟩:=hI.norm Rt
     exact ih (_,cl) (Prod.Lex.left _ _ h3) _ gs w t sl hb h1 (h2.trans ho) (by rw[aF _ _ (by omega)];exact hK)
    by_cases hc:∃n,cl=some (i,.run .leaf,n)
    ·obtain⟨n,e⟩:=hc
     subst e
     obtain⟨hp,hd,hT⟩:=iM (by rw[←hb];rfl)
     subst hp
     obtain⟨kY,w',u,q,hr,hL,h0,hdd,hG,tq⟩:=yT.close (sl:=Q7) (main':=g) (fun a a' w' _ _ _=>by
      unfold Go.Conc.woken
      split
      ·exact again_running _ (.inl hs)
      rfl) da
     exact Ends.next (bS.trans hr) (hT (ho.symm.trans tq) (t.size+1) _ kY w' _ q Q7 hL h0 (by simp only[if_true];rw[hK];exact St.le_refl _) (by rw[hdd];exact hd) hG)
    obtain⟨K',kY,w',u,D',cl',hr,Mt,lg,HI,gh,cG,_⟩:=yT.other (sl:=Q7) (.inl hs) da Gm Rt (fun n e=>hc ⟨n,e⟩) (fun _=>hs)
    exact Ends.next (bS.trans hr) (ih (D',cl') cG K' kY w' _ Q7 (gh.trans hb) Mt (HI.trans ho) (lg.trans hK))
 exact key (D,cl) _ gs w t sl hb (hI.le0 hle) ho (aC _ _ _)
end
section
variable {ι:Type} {E:dO ι} {L:Nat→Option Obj} {Q:Machine→Outcome→World→Trace→Prop} {g:Goroutine} {s:St}
theorem U0(TN:L E.Ch=none){x:Goroutine}(hx:x.status= .running)(bS:∀w,aQ s w→stepG E.P true x w= .comm g #[rcase E.Ch z] true (.recv true) w #[])
 (ni:∀w,aQ s w→(∀b o,L b=some o→w.heap[b]?=some o)→aQ s' w) (zg:∀b,s'.knows b→L b≠none∨s.knows b)
 (hT:TL E.P eC (fun _=>none) (Calm E.os E.out) Q (Conc.served g (.tuple #[z,.bool false])) s'):TL E.P (jh pc) L (HC E pc) Q x s:=by
 refine KG (Qd pc) (GN E pc) hx fun K gs w t q sl m hL h0 hK hd hG hm _=>?_
 subst hK
 obtain⟨⟨sn,tm,hc⟩,hkC,alM,atl,aBg,aeh⟩:=hG
 have HJ:partners (gs.setIfInBounds 0 ph) E.Ch true=[]:=partners_nil fun j y hy=>by
  rcases getElem?_stand gs _ _ _ hy with ⟨_,rfl⟩| ⟨hj,YS⟩
  ·exact offersAt_ph _ _
  cases j with
  |zero=>exact absurd rfl hj
  |succ j=>
   have cG:j <q.length:=by have:=lt_size YS;have:=hL.size;omega
   obtain⟨y',d,hy2,hq,_⟩:=hL.ok j _ (List.getElem?_eq_getElem cG)
   rw[YS] at hy2
   rw[Option.some.inj hy2]
   exact q5 hq.status _ _
 have bU:=crowd_recv_closed (sl:=sl) h0 (by simpa using bS w (hL.fit.jK 0)) hc HJ
 have e0:MemOp.ofEvents 0 x.frame.fn x.frame.place #[]= #[]:=rfl
 rw[e0,Array.empty_append] at bU
 generalize hu:(#[{g:=0,fn:=g.frame.fn,pos:=g.frame.place,act:= .recvClosed E.Ch}]:Trace)=u at bU
 have JU:∀op∈u,op.g=0∧op.act= .recvClosed E.Ch:=by rw[←hu];intro op ay;simp at ay;subst ay;exact⟨rfl,rfl⟩
 have Wn:∀op∈u,op.act.touch?=none:=fun op ay=>by rw[(JU op ay).2];rfl
 have PI:∀op∈u,∀m,op.act≠ .mark m:=fun op ay m=>by rw[(JU op ay).2];simp
 have hr:(t++u)[t.size]?=some {g:=0,fn:=g.frame.fn,pos:=g.frame.place,act:= .recvClosed E.Ch}:=by rw[←hu];simp
 have aob:=lt_of_act? alM
 have ZI:HappensBefore (t++u) pc t.size:= .single (.inr ⟨.closed (c:=E.Ch) (by rw[act?_old aob];exact alM) (by rw[act?_of hr]),(heard_old aob).2 atl,⟨0,by simp[Trace.g?,hr],by rw[deaf_old (Nat.le_refl _)];exact hd⟩⟩)
 have cY:∀i n,q[i]?=some n→eC (t++u) (i+1):=fun i n hi=>by
  obtain⟨y,d,hy,hq,hdd,hk⟩:=hL.ok i n hi
  rcases hk.2 with hk|hk
  ·exact hk.quiet Wn
  intro p hp hct
  obtain⟨op,ho,hgo⟩:=Option.map_eq_some_iff.1 hp
  rcases getElem?_append_cases ho with ⟨Tg,_⟩| ⟨_,iX⟩
  ·exact⟨t.size,by simp[Trace.g?,hr],(hb_app u (hk p (by rw[←g?_old (u:=u) Tg];exact hp) ((counts_old Tg).1 hct))).trans ZI⟩
  rw[(JU op iX).1] at hgo;omega
 have pG:=hL.fit.quiet (u:=u) (w':=w) E.Ch (fun j=>by
  by_cases e:j=0
  ·subst e;exact hkC
  exact hL.none j _ e) TN (Nat.le_refl _) (fun _ _ _=>rfl) Wn
 refine Ends.next (hm.trans bU) (hT (fR K 0 s') _ w _ q sl ⟨?_,by simp[hL.size],fun i n hi=>?_,fun i b hi hk=>?_,fun op ay=>?_⟩ ?_ (by rw[aC];exact St.le_refl _) (by rw[gq _ _ _ PI];exact hd) ⟨fun a=>(aBg a).app fun op ay=>PI op ay _,aeh⟩)
 ·refine pG.alone (i:=0) (fun j hj b=>hL.none j b hj) s' (ni w (hL.fit.jK 0) hL.fit.DY) zg fun b hb p y hy Px hyb=>?_
  obtain⟨op,ho,hyo⟩:=touch_of hy
  have cG:op.g <gs.size:=by
   rcases Array.mem_append.1 (mem_of_getElem? ho) with h'|h'
   ·exact hL.ops op h'
   rw[(JU op h').1,hL.size];omega
  cases hgo:op.g with
  |zero=>have:=knows_own ho;rwa[hgo] at this
  |succ k=>
   have hk:k <q.length:=by have:=hL.size;omega
   obtain⟨j,hj,mw⟩:=cY k _ (List.getElem?_eq_getElem hk) p (by simp[Trace.g?,ho,hgo]) ⟨y,by simpa [touchAt] using hy,by cases hl:y.loc<;>simp_all[blk,Loc.isMemory],.inl (by rw[Px];simp)⟩
   obtain⟨z',D5,hzg⟩:=Option.map_eq_some_iff.1 hj
   exact⟨j,z',D5,hzg,.inr mw⟩
 ·obtain⟨y,d,hy,hq,hdd,hk⟩:=hL.ok i n hi
  exact⟨y,d,by rw[Array.getElem?_setIfInBounds_ne (by omega)];exact hy,hq,by rw[gq _ _ _ PI];exact hdd,cY i n hi⟩
 ·rw[aF _ _ hi] at hk;exact hL.none i b hi hk
 ·rw[Array.size_setIfInBounds]
  rcases Array.mem_append.1 ay with h'|h'
  ·exact hL.ops op h'
  rw[(JU op h').1,hL.size];omega
 have:0 <gs.size:=by rw[hL.size];omega
 simp[this,finishComm_recv,recvd]
end
section
variable {ι:Type} {E:dO ι} {L:Nat→Option Obj} {K:Nat→St} {gs:Array Goroutine} {w w':World} {t:Trace} {D:List (an ι)} {pend d0:Nat} {cl:zk} {main:Goroutine} {sl:Option (Nat×Nat)}
 {i:Nat} {Q:Machine→Outcome→World→Trace→Prop} {g:Goroutine} {s:St}
theorem setChan_at(w:World)(d c:Nat)(h:c <w.heap.size)(sn rc:Nat)(tm:Bool):
 ((w.at d).setChan c 0 #[] false sn rc tm).heap[c]?=some (.chan 0 #[] false sn rc tm)∧((w.at d).setChan c 0 #[] false sn rc tm).heap.size=w.heap.size∧
 ∀b,b≠c→((w.at d).setChan c 0 #[] false sn rc tm).heap[b]?=w.heap[b]?:=by
 refine⟨by simp[World.setChan,World.at,h],by simp[World.setChan,World.at],fun b hb=>by simp[World.setChan,World.at,Ne.symm hb]⟩
theorem Inv.alive(h:Inv E L K gs w t D 0 cl main d0)(iM:cl≠none)(hn:∀o,an.gI o∉D):∃(i:Nat) (x:Goroutine),gs[i]?=some x∧x.status= .running:=by
 by_cases cY:∀r∈D,r.left=true∨r= .closer
 ·have iY:=h.sy.Eo
  obtain⟨st,sm,_,m8⟩:=h.sy.cells
  match cl,iY,m8,iM with
  |some (ic,c,n),⟨_,_,_,⟨gc,EP,pS⟩,_⟩,m8,_=>
   refine⟨_,gc,EP,CK.ui pS fun e=>?_⟩
   subst e
   have z:∀(f:an ι→Nat),(∀q d c,f (.leave q d c)=0)→f .closer=0→fC f D=0:=fun f h1 h2=>by
    unfold fC
    rw[List.sum_eq_zero_iff_forall_eq_nat]
    intro x hx
    obtain⟨r,hr,rfl⟩:=List.mem_map.1 hx
    rcases cY r hr with e|rfl
    ·cases r<;>first|exact h1 _ _ _|cases e
    exact h2
   have z1:=z an.cnt (fun _ _ _=>rfl) rfl
   have z4:=z an.c4 (fun _ _ _=>rfl) rfl
   have z3:=z an.c3 (fun _ _ _=>rfl) rfl
   have z2:=z an.c2 (fun _ _ _=>rfl) rfl
   rw[z1,z4,z3,z2] at m8
   simp only[Option.map_some] at m8
   generalize ho:some CK.blk=o at m8
   generalize h0:0+0=k at m8
   cases m8 with
   |reg _ h2=>omega
   |sema _ h2=>cases ho;exact h2 rfl
   |over h1=>cases ho;exact h1.elim
   |_=>cases ho
 obtain⟨r,lL⟩:=Classical.not_forall.1 cY
 obtain⟨hr,Bp⟩:=Classical.not_imp.1 lL
 have h1:¬r.left=true:=fun e=>Bp (.inl e)
 have h2:r≠ .closer:=fun e=>Bp (.inr e)
 obtain⟨k,hk⟩:=List.getElem?_of_mem hr
 obtain⟨x,hx,fA⟩:=h.base.ok k r hk
 refine⟨_,x,hx,?_⟩
 cases r with
 |leave q d c=>exact absurd rfl h1
 |work o tr=>exact oO.running (fun _ _ y=>y.1) fA.2
 |gI o=>exact absurd hr (hn o)
 |back tr=>exact oO.running (fun _ _ y=>dO.pure.running (fun _ z=>z.1) y) fA.2
 |st k n=>exact Pure.running (WK.running k) fA.2.2.1
 |closer=>exact absurd rfl h2
theorem Inv.XX(h:Inv E L K gs w t D pend cl (parked g #[rcase E.Ch z] (.recv true)) 0)(iM:cl≠none){o:ι}{gw:Goroutine}(hi:D[i]?=some (.work o .leaf)) (hg:gs[i+1]?=some gw):
 ∃K' kY w' u D' v X a b,runT E.P (crowd gs w sl) (i+1)=(.next (crowd kY w' sl),u)∧Inv E L K' kY w' (t++u) D' pend cl (Conc.served g (.tuple #[v,.bool true])) 0∧K' 0=⟨(K 0).ro,X++(K 0).rw⟩∧
  E.UI o v X∧kH D=a++o::b∧kH D'=a++b:=by
 obtain⟨fq,da,fA⟩:=h.base.ok i _ hi
 obtain rfl:fq=gw:=by rw[hg] at da;exact(Option.some.inj da).symm
 obtain⟨hd,hs,qv,v,zs,X,Y,hXY,oC,bS,tr,iz,hle,xT⟩:=fA
 obtain⟨sn,rc,tm,hc⟩:=h.sy.chan
 have uU:=h.base.size
 have aPQ:partners (gs.setIfInBounds (i+1) ph) E.Ch false=[(0,0)]:=by
  have h0:(gs.setIfInBounds (i+1) ph)[0]?=some (parked g #[rcase E.Ch z] (.recv true)):=stand_get (by omega) h.main
  rw[partners_one h0 fun k x hk hx=>?_]
  ·rw[offersAt_parked_recv];simp
  rcases getElem?_stand gs _ _ _ hx with ⟨_,rfl⟩| ⟨_,lK⟩
  ·exact offersAt_ph _ _
  cases k with
  |zero=>exact absurd rfl hk
  |succ k=>
   rcases h.offers lK with ⟨o',g',v',zs',_,rfl⟩|hn
   ·exact offersAt_parked_send' _ _ _ _ _ _
   exact hn _ _
 have bU:=crowd_send_meets (sl:=sl) hg (by simpa using bS w (h.base.fit.jK _)) hc (by omega) h.main aPQ
 have e0:MemOp.ofEvents (i+1) fq.frame.fn fq.frame.place #[]= #[]:=rfl
 rw[e0,Array.empty_append] at bU
 obtain⟨a,b,ha,hb⟩:=BS (r':=an.back tr) rfl hi (o:=o) rfl
 have hwc:=setChan_at w w.drawn E.Ch (lt_size hc) (sn+1) (rc+1) tm
 refine⟨_,_,_,_,_,v,X,a,b,bU,h.meet iM hi (.inl rfl) hd hXY hle xT (by simp) ?_ ?_ (fun k h1 h2=>?_) hc hwc.1 hwc.2.1 hwc.2.2 ⟨rfl,rfl⟩ ⟨rfl,rfl⟩ ⟨rfl,rfl⟩ ⟨rfl,rfl⟩ ⟨rfl,rfl⟩,aC _ _ _,oC,ha,hb⟩
 ·rw[Array.getElem?_setIfInBounds_ne (by omega),Array.getElem?_setIfInBounds_self_of_lt (by omega)]
  rw[finishComm_recv];rfl
 ·rw[Array.getElem?_setIfInBounds_self_of_lt (by have:=lt_size hg;simpa using this)]
  rw[finishComm_send]
 rw[Array.getElem?_setIfInBounds_ne (Ne.symm h2),Array.getElem?_setIfInBounds_ne (Ne.symm h1)]
theorem OE{os:List ι}
 (JW:∀a o b v X,os=a++o::b→E.UI o v X→TC E L Q 0 true (a++b) 0 (Conc.served g (.tuple #[v,.bool true])) ⟨s.ro,X++s.rw⟩)
 (qp:os=[]→∀pc,TL E.P (jh pc) L (HC E pc) Q {parked g #[rcase E.Ch z] (.recv true) with status:= .running} s):
 ∀(μ:List (an ι)×zk) K gs w t sl,μ.2.isSome=true→Inv E L K gs w t μ.1 0 μ.2 (parked g #[rcase E.Ch z] (.recv true)) 0→kH μ.1=os→K 0=s→(∀o,an.gI o∉μ.1)→Ends E.P Q (crowd gs w sl) t:=by
 intro μ
 induction μ using (PLt.wf E.max).induction with
 |_ μ ih=>
  obtain⟨D,cl⟩:=μ
  intro K gs w t sl hb hI ho hK hn
  simp only at hb hI ho hn
  have iM:cl≠none:=fun e=>by rw[e] at hb;cases hb
  have PH:gP E (parked g #[rcase E.Ch z] (.recv true)):= .inr ⟨g,z,rfl⟩
  obtain⟨i,fq,d,Q7,da,Gm,bS⟩:=crowd_pick (P:=E.P) (gs:=gs) (w:=w) (sl:=sl) (hI.awake PH) (hI.alive iM hn)
  have yT:=hI.at d
  cases i with
  |zero=>rw[hI.main] at da;rw[←Option.some.inj da] at Gm;cases Gm
  |succ i=>
   by_cases Rt:D[i]?=some (.back .leaf)
   ·obtain⟨n,h1,h2,h3⟩:=hI.norm Rt
    refine ih (_,cl) (Prod.Lex.left _ _ h3) _ gs w t sl hb h1 (h2.trans ho) (by rw[aF _ _ (by omega)];exact hK) fun o hm=>?_
    rcases List.mem_or_eq_of_mem_set hm with h'|h'
    ·exact hn o h'
    cases h'
   by_cases hc:∃n,cl=some (i,.run .leaf,n)
   ·obtain⟨n,e⟩:=hc
    subst e
    obtain⟨kY,w',u,q,hr,hL,h0,hdd,hG,tq⟩:=yT.close (sl:=Q7) (main':={parked g #[rcase E.Ch z] (.recv true) with status:= .running}) (fun a a' w' hmw ni ⟨sn,tm,sQ⟩=>by
     have:(mayWake E.P a&&a'.status != .blocked&&a'.status != .waiting)=true:=by rcases ni with e|e<;>simp[hmw,e]
     unfold Go.Conc.woken
     rw[if_pos this]
     exact again_recv_closed sQ) da
    exact Ends.next (bS.trans hr) (qp (ho.symm.trans tq) (t.size+1) _ kY w' _ q Q7 hL h0 (by simp only[if_true];rw[hK];exact St.le_refl _) (by rw[hdd]) hG)
   by_cases Ea:∃o,D[i]?=some (.work o .leaf)
   ·obtain⟨o,hi⟩:=Ea
    obtain⟨K',kY,w',u,D',v,X,a,b,hr,Mt,lg,oC,ha,mw⟩:=yT.XX (sl:=Q7) iM hi da
    refine Ends.next (bS.trans hr) (JW a o b v X (ho.symm.trans ha) oC K' kY w' _ D' cl Q7 hb Mt mw ?_)
    rw[lg,hK];exact St.le_refl _
   obtain⟨K',kY,w',u,D',cl',hr,Mt,lg,HI,gh,cG,YZ⟩:=yT.other (sl:=Q7) PH da Gm Rt (fun n e=>hc ⟨n,e⟩) (fun hx=>absurd hx Ea)
   refine Ends.next (bS.trans hr) (ih (D',cl') cG K' kY w' _ Q7 (gh.trans hb) Mt (HI.trans ho) (lg.trans hK) fun o hm=>?_)
   rcases YZ o hm with h'|h'
   ·exact hn o h'
   cases h'
theorem U3{os:List ι}(hs:g.status= .running)(bS:∀w,aQ s w→stepG E.P true g w= .comm g #[rcase E.Ch z] true (.recv true) w #[])
 (JW:∀a o b v X,os=a++o::b→E.UI o v X→TC E L Q 0 true (a++b) 0 (Conc.served g (.tuple #[v,.bool true])) ⟨s.ro,X++s.rw⟩)
 (qp:os=[]→∀pc,TL E.P (jh pc) L (HC E pc) Q g s∧TL E.P (jh pc) L (HC E pc) Q {parked g #[rcase E.Ch z] (.recv true) with status:= .running} s):TC E L Q 0 true os 0 g s:=by
 refine wR hs (fun K gs w t D cl sl m hb hI ho hK hm=>?_) fun _=>⟨rfl,rfl,fun h pc=>(qp h pc).1⟩
 have iM:cl≠none:=fun e=>by rw[e] at hb;cases hb
 obtain⟨sn,rc,tm,hc⟩:=hI.sy.chan
 have hgo:=bS w (hK▸hI.base.fit.jK 0)
 have e0:MemOp.ofEvents 0 g.frame.fn g.frame.place #[]= #[]:=rfl
 by_cases dR:partners (gs.setIfInBounds 0 ph) E.Ch true=[]
 ·have bU:=crowd_waits (sl:=sl) hI.main (by simpa using hgo) (fun cc uD=>by
   simp only[List.mem_toArray,List.mem_singleton] at uD
   subst uD
   exact ways_recv_none hc dR)
  rw[e0] at bU
  have uU:=hI.base.size
  refine Ends.next (hm.trans bU) (OE JW (fun h pc=>(qp h pc).2) (D,cl) K _ w _ sl hb ⟨⟨?_,by simp[uU],fun k r hk=>?_,fun k hk=>hI.base.far k (by simpa using hk),fun op ay=>?_,hI.base.same⟩,?_,?_,?_⟩ ho hK fun o hm=>?_)
  ·rw[Array.append_empty];exact hI.base.fit
  ·obtain⟨x,hx,fA⟩:=hI.base.ok k r hk
   exact⟨x,by rw[Array.getElem?_setIfInBounds_ne (by omega)];exact hx,by rw[Array.append_empty];exact fA⟩
  ·rw[Array.append_empty] at ay;rw[Array.size_setIfInBounds];exact hI.base.ops op ay
  ·rw[Array.append_empty]
   refine⟨hI.sy.kW,hI.sy.kC,hI.sy.lW,hI.sy.lC,hI.sy.ne,hI.sy.norel,hI.sy.plain,hI.sy.said,hI.sy.cells,hI.sy.BZ,hI.sy.chan,hI.sy.bal,?_⟩
   have iY:=hI.sy.Eo
   match cl,iY with
   |none,iY=>exact iY
   |some (ic,c,n),⟨h1,h2,h3,⟨gc,EP,pS⟩,h5⟩=>exact⟨h1,h2,h3,⟨gc,by rw[Array.getElem?_setIfInBounds_ne (by omega)];exact EP,pS⟩,h5⟩
  ·rw[Array.getElem?_setIfInBounds_self_of_lt (by omega)]
  ·rw[Array.append_empty];exact hI.deaf
  obtain⟨k,hk⟩:=List.getElem?_of_mem hm
  obtain⟨x,hx,_,uX,qv,v,zs,X,Y,rfl,_⟩:=hI.base.ok k _ hk
  have:((k+1,0):Nat×Nat)∈partners (gs.setIfInBounds 0 ph) E.Ch true:=mem_partners.2 ⟨_,stand_get (by omega) hx,by rw[offersAt_parked_send];simp⟩
  rw[dR] at this;cases this
 obtain⟨j,gj,vj,zj,shj,d,hj0,hj,bU⟩:=crowd_recv_meets_some (sl:=sl) hI.main (by simpa using hgo) hc dR fun j k Np=>by
  obtain⟨x,hx,hk⟩:=mem_partners.1 Np
  rcases getElem?_stand gs _ _ _ hx with ⟨_,rfl⟩| ⟨hj0,lK⟩
  ·rw[offersAt_ph] at hk;cases hk
  cases j with
  |zero=>exact absurd rfl hj0
  |succ j=>
   rcases hI.offers lK with ⟨o',g',v',zs',_,rfl⟩|hn
   ·rw[offersAt_parked_send] at hk
    simp at hk
    exact⟨hk,by omega,_,_,_,_,lK⟩
   rw[hn] at hk;cases hk
 rw[e0,Array.empty_append] at bU
 cases j with
 |zero=>exact absurd rfl hj0
 |succ i=>
  rcases hI.offers hj with ⟨o,qv,v,zs,hi,e⟩|hn
  ·obtain⟨x,hx,yR,uX,aFg,v',zs',X,Y,e',hXY,oC,_,tr,iz,hle,xT⟩:=hI.base.ok i _ hi
   obtain rfl:x=parked gj #[scase E.Ch vj zj] shj:=by rw[hj] at hx;exact(Option.some.inj hx).symm
   have hv:vj=v':=by
    have:=congrArg Goroutine.offers e'
    simp only[parked,scase,Option.some.injEq,Prod.mk.injEq,Array.mk.injEq,List.cons.injEq,CommCase.mk.injEq] at this
    exact this.1.1.2.1
   have hsv:gj.finishComm E.P #[scase E.Ch vj zj] shj 0 undef false=Conc.served aFg undef:=by
    have h1:shj= .send:=by
     have:=congrArg Goroutine.offers e'
     simp only[parked,Option.some.injEq,Prod.mk.injEq] at this
     exact this.2
    subst h1
    rw[finishComm_send]
    have h2:=congrArg (fun x:Goroutine=>Conc.served x undef) e'
    exact h2
   subst hv
   obtain⟨a,b,ha,mw⟩:=BS (r':=an.back tr) rfl hi (o:=o) rfl
   have hwc:=setChan_at w d E.Ch (lt_size hc) (sn+1) (rc+1) tm
   have uU:=hI.base.size
   refine Ends.next (hm.trans bU) (JW a o b vj X (ho.symm.trans ha) oC _ _ _ _ (D.set i (.back tr)) cl sl hb
    (hI.meet iM hi (.inr rfl) yR hXY hle xT (by simp) ?_ ?_ (fun k h1 h2=>?_) hc hwc.1 hwc.2.1 hwc.2.2 ⟨rfl,rfl⟩ ⟨rfl,rfl⟩ ⟨rfl,rfl⟩ ⟨rfl,rfl⟩ ⟨rfl,rfl⟩) mw ?_)
   ·rw[Array.getElem?_setIfInBounds_self_of_lt (by simp;omega),finishComm_recv];rfl
   ·rw[Array.getElem?_setIfInBounds_ne (by omega),Array.getElem?_setIfInBounds_self_of_lt (lt_size hj),hsv]
   ·rw[Array.getElem?_setIfInBounds_ne (Ne.symm h1),Array.getElem?_setIfInBounds_ne (Ne.symm h2)]
   rw[aC,hK];exact St.le_refl _
  have:(0:Nat)∈offersAt (parked gj #[scase E.Ch vj zj] shj) E.Ch true:=by rw[offersAt_parked_send];simp
  rw[hn] at this;cases this
end
section
variable {ι:Type} {E:dO ι} {L:Nat→Option Obj} {K:Nat→St} {gs:Array Goroutine} {w w':World} {t:Trace} {D:List (an ι)} {pend d0:Nat} {cl:zk} {sl:Option (Nat×Nat)}
 {Q:Machine→Outcome→World→Trace→Prop} {g g':Goroutine} {s:St} {es:Array Event}
theorem Inv.go0(h:Inv E L K gs w t D pend cl g d0)(hgo:stepG E.P true g w= .go g' w' es)(Pr:UJ w w')(bW:¬s'.knows E.Wg)(n6:¬s'.knows E.Ch)(u9:w'.heap[E.Ch]?=w.heap[E.Ch]?)
 (pG:Fit L (fR K 0 s') w' (t++MemOp.ofEvents 0 g.frame.fn g.frame.place es))
 (kT:∀op∈MemOp.ofEvents 0 g.frame.fn g.frame.place es,∀x,op.act.touch?=some x→E.At x→x.kind≠ .plain∧(x.kind= .said→cl=none))
 (iC:∀op∈MemOp.ofEvents 0 g.frame.fn g.frame.place es,∀a,op.act≠ .mark (.release a)) 
 (nM:∀cl',y7 cl cl'→∃st sm,WgAt E.ty E.Wg w' st sm∧Md E.max (fC an.cnt D+lU) (fC an.c4 D) (fC an.c3 D) (fC an.c2 D) (cl'.map (·.2.1)) st sm) (PG:fC an.cnt D+lU≤E.max):
 ∃kY u cl',runT E.P (crowd gs w sl) 0=(.next (crowd kY w' sl),u)∧Inv E L (fR K 0 s') kY w' (t++u) D lU cl' g' (deafBehind d0 es)∧cl'.isSome=cl.isSome:=by
 have JU:∀op∈MemOp.ofEvents 0 g.frame.fn g.frame.place es,op.g=0:=fun op ay=>Go.ConcR.g_of_ofEvents op ay
 have bU:=runT_crowd_go (P:=E.P) (sl:=sl) (i:=0) h.main (by simpa using hgo)
 have hdo:Deaf (t++MemOp.ofEvents 0 g.frame.fn g.frame.place es) 0=deafBehind d0 es:=by rw[Deaf_own,h.deaf]
 generalize MemOp.ofEvents 0 g.frame.fn g.frame.place es=u at*
 obtain⟨sn,rc,tm,hc⟩:=h.sy.chan
 have sQ:w'.heap[E.Ch]?=some (.chan 0 #[] false sn rc tm):=by rw[u9];exact hc
 have dR:∀k,∀op∈u,op.g≠k+1:=fun k op ay=>by rw[JU op ay];omega
 have HN:∀b,¬s'.knows b→(∀j,¬(K j).knows b)→∀j,¬(fR K 0 s' j).knows b:=fun b h1 h2 j=>by
  by_cases e:j=0
  ·subst e;rw[aC];exact h1
  rw[aF _ _ e];exact h2 j
 obtain⟨cl',Ea,iY⟩:∃cl',y7 cl cl'∧ah4 E (fR K 0 s') ((gs.map (woken E.P g g' w')).setIfInBounds 0 g') (t++u) D cl':=by
  have iY:=h.sy.Eo
  match cl,iY with
  |none,iY=>exact⟨none,.same _,iY⟩
  |some (ic,c,n),⟨h1,h2,h3,⟨gc,EP,pS⟩,h5⟩=>
   obtain⟨c',n',hw,atY,_,hdc⟩:=CK.tries (ic:=ic) pS g g' w'
   refine⟨some (ic,c',n'),hw,h1,h2,by rw[gY _ _ (dR ic),hdc];exact h3,⟨_,gv (by omega) EP,by rw[aF _ _ (by omega)];exact atY⟩,fun⟨tr,e⟩=>?_⟩
   subst e
   cases hw with
   |same=>
    obtain⟨q,a1,a2,a3,a4⟩:=h5 ⟨tr,rfl⟩
    have hq:=lt_of_act? a1
    exact⟨q,by rw[act?_old hq];exact a1,by rw[g?_old hq];exact a2,(heard_old hq).2 a3,fun i r hi hcu=>let ⟨p,hp,Wo⟩:=a4 i r hi hcu;⟨p,RelBy.other hp (dR i),Wo⟩⟩
 refine⟨_,u,cl',bU,⟨⟨pG,by simp[h.base.size],fun k r hk=>?_,fun k hk b hb=>?_,fun op ay=>?_,⟨Pr.1.trans h.base.same.1,Pr.2.trans h.base.same.2⟩⟩,
  ⟨HN _ bW h.sy.kW,HN _ n6 h.sy.kC,h.sy.lW,h.sy.lC,h.sy.ne,fun a=>(h.sy.norel a).app fun op ay=>iC op ay a,fun j hj p x hx hb hk=>?_,?_,nM cl' Ea,PG,⟨sn,rc,tm,sQ⟩,fun a b c hx=>h.sy.bal a b c (by rw[←u9];exact hx),iY⟩,?_,hdo⟩,by cases Ea<;>rfl⟩
 ·obtain⟨x,hx,fA⟩:=h.base.ok k r hk
  rw[aF _ _ (by omega)]
  have Y6:=fA.other (dR k)
  by_cases Rs:r= .closer
  ·subst Rs;exact⟨_,gv (by omega) hx,trivial⟩
  exact⟨x,by rw[gv (by omega) hx,fA.woken Rs fun _=>⟨sn,rc,tm,sQ⟩],Y6⟩
 ·rw[Array.size_setIfInBounds,Array.size_map] at hk
  have:=h.base.size
  rw[aF _ _ (by omega)] at hb
  exact h.base.far k hk b hb
 ·rw[Array.size_setIfInBounds,Array.size_map]
  rcases Array.mem_append.1 ay with h'|h'
  ·exact h.base.ops op h'
  rw[JU op h',h.base.size];omega
 ·rcases bB hx with ⟨_,lK⟩| ⟨_,op,Rn,_,xR⟩
  ·exact(h.sy.plain j hj p x lK hb hk).app u
  exact absurd hk (kT op Rn x xR hb).1
 ·have Nn:=h.sy.said
  match cl,cl',Ea,Nn,kT with
  |none,_,.same _,Nn,_=>
   intro p x hx hb hk
   rcases bB hx with ⟨_,lK⟩| ⟨hp,op,Rn,ay,xR⟩
   ·exact(Nn p x lK hb hk).app u
   exact B9 JU hp ay
  |some (ic,c,n),_,.same _,Nn,kT=>
   intro he p x hx hb hk
   rcases bB hx with ⟨_,lK⟩| ⟨_,op,Rn,_,xR⟩
   ·exact(Nn he p x lK hb hk).app u
   exact absurd ((kT op Rn x xR (.inl hb)).2 hk) (by simp)
  |_,_,.up ic,_,_=>exact fun he=>he.elim
 have:=h.base.size
 rw[Array.getElem?_setIfInBounds_self_of_lt (by simp;omega)]
theorem Inv.Hh(h:Inv E L K gs w t D pend cl g d0)(hw:w'.heap[E.Wg]?=w.heap[E.Wg]?):∀cl',y7 cl cl'→∃st sm,WgAt E.ty E.Wg w' st sm∧Md E.max (fC an.cnt D+pend) (fC an.c4 D) (fC an.c3 D) (fC an.c2 D) (cl'.map (·.2.1)) st sm:=by
 intro cl' Ea
 obtain⟨st,sm,ha,hm⟩:=h.sy.cells
 exact⟨st,sm,by unfold WgAt;rw[hw];exact ha,hm.apm Ea⟩
def TM(E:dO ι)(L:Nat→Option Obj)(Q:Machine→Outcome→World→Trace→Prop)(pend:Nat)(b:Bool)(os:List ι)(d0:Nat)(g:Goroutine)(s:St):Prop:=
 TC E L Q pend b os d0 g s∧(b=true→os=[]→∀pc,TL E.P (jh pc) L (HC E pc) Q g s)
theorem TC.mono{b:Bool}{os:List ι}(hl:s.le s')(h:TC E L Q pend b os d0 g s):TC E L Q pend b os d0 g s':=
 fun K gs w t D cl sl hb hI ho hle=>h K gs w t D cl sl hb hI ho (hl.trans hle)
theorem fw(b:Bool)(os:List ι)(hb:b=true→pend=0):Closed E.P true (TM E L Q pend b os 0) where
 step:=fun g s hs h=>by
  have hL:b=true→os=[]→∀pc,TL E.P (jh pc) L (HC E pc) Q g s:=fun e ho pc=>
   (IT (Qd pc) (GN E pc) Q).step g s hs fun w ha=>let ⟨g',w',es,s',h1,h2,h3,h4⟩:=h w ha;⟨g',w',es,s',h1,h2,h3,h4.2 e ho pc⟩
  refine⟨wR hs (fun K gs w t D cl sl m iM hI ho hK hm=>?_) fun e=>⟨hb e,rfl,fun ho pc=>hL e ho pc⟩,hL⟩
  subst hK
  obtain⟨g',w',es,s',hgo,_,ht,hT,_⟩:=h w (hI.base.fit.jK 0)
  obtain⟨k1,k2,k3,k4,k5,k6⟩:=hI.sy.Ac ht g.frame.fn g.frame.place
  obtain⟨kY,u,cl',hr,yT,TA⟩:=hI.go0 (sl:=sl) hgo ⟨ht.os,ht.output⟩ k1 k2 k4 (hI.base.fit.own ht _ _) (fun op ay x hx rX=>absurd rX (k5 op ay x hx)) k6 (hI.Hh k3) hI.sy.BZ
  rw[ht.deaf] at yT
  exact Ends.next (hm.trans hr) (hT _ kY w' _ D cl' sl (TA.trans iM) yT ho (by rw[aC];exact St.le_refl _))
 mono:=fun g s s' hl h=>⟨h.1.mono hl,fun e ho pc=>(h.2 e ho pc).mono hl⟩
theorem Md.opened{mx a b c:Nat}{o:Option CK}(h:Md mx n a b c o st sm)(ho:o=none):st=(n:Int)*KK∧sm=0:=by
 cases h with
 |start=>exact⟨rfl,rfl⟩
 |_=>cases ho
theorem ED{b:Bool}{os:List ι}{d':Nat}(hs:g.status= .running)(hb:b=false)
 (h:∀w st sm,WgAt E.ty E.Wg w st sm→(b=false→st=((os.length+pend:Nat):Int)*KK∧sm=0)→os.length+pend≤E.max→∃w',stepG E.P true g w= .go g' w' es∧eJ E w w'∧WgAt E.ty E.Wg w' (((os.length+lU:Nat):Int)*KK) 0)
 (yP:∀e∈es,iJ E e)(hd:deafBehind d0 es=d')(hp:os.length+pend≤E.max→os.length+lU≤E.max)(hT:TC E L Q lU b os d' g' s):TC E L Q pend b os d0 g s:=by
 subst hb
 refine wR hs (fun K gs w t D cl sl m iM hI ho hK hm=>?_) fun e=>(by cases e)
 subst hK
 have hcn:cl=none:=by cases cl<;>simp_all
 subst hcn
 have iY:=hI.sy.Eo
 have atN:∀D:List (an ι),(∀r∈D,r.early)→fC an.cnt D=(kH D).length∧fC an.c4 D=0∧fC an.c3 D=0∧fC an.c2 D=0:=by
  intro D
  induction D with
  |nil=>intro _;exact⟨rfl,rfl,rfl,rfl⟩
  |cons r D ih=>
   intro hr
   obtain⟨i1,i4,i3,i2⟩:=ih fun x hx=>hr x (by simp[hx])
   have:=hr r (by simp)
   simp only[fC,List.map_cons,List.sum_cons,kH,List.filterMap_cons] at*
   cases r<;>first|exact this.elim| (simp[an.cnt,an.c4,an.c3,an.c2,an.VE,i1,i4,i3,i2];try omega)
 obtain⟨c1,c4,c3,c2⟩:=atN D iY
 rw[ho] at c1
 obtain⟨st,sm,ha,m8⟩:=hI.sy.cells
 have It:=hI.sy.BZ
 rw[c1] at It
 have bS:st=((os.length+pend:Nat):Int)*KK∧sm=0:=by
  rw[c1] at m8
  exact m8.opened rfl
 obtain⟨w',hgo,htu,uG⟩:=h w st sm ha (fun _=>bS) It
 have aA6:=iJ.ops yP 0 g.frame.fn g.frame.place
 obtain⟨kY,u,cl',hr,yT,TA⟩:=hI.go0 (sl:=sl) (s':=K 0) (lU:=lU) hgo htu.same (hI.sy.kW 0) (hI.sy.kC 0) (htu.block _ (Ne.symm hI.sy.ne)) (by rw[lS];exact hI.sy.AI hI.base.fit (.inl rfl) htu yP _ _)
  (fun op ay x hx _=>by rw[((aA6 op ay).2.2 x hx).2];exact⟨by simp,by simp⟩) (fun op ay=>(aA6 op ay).2.1) (fun cl' hw=>by
   cases hw
   rw[c1,c4,c3,c2]
   exact⟨_,_,uG,.start⟩) (by rw[c1];exact hp It)
 rw[hd] at yT
 exact Ends.next (hm.trans hr) (hT _ kY w' _ D cl' sl (TA.trans iM) yT ho (by rw[aC];exact St.le_refl _))
end
section
variable {ι:Type} {E:dO ι} {L:Nat→Option Obj} {K:Nat→St} {gs:Array Goroutine} {w w':World} {t:Trace} {D:List (an ι)} {pend d0:Nat} {cl:zk} {sl:Option (Nat×Nat)}
 {Q:Machine→Outcome→World→Trace→Prop} {g g' child:Goroutine} {s iz:St} {es:Array Event}
theorem vk(f:an ι→Nat)(D:List (an ι))(r:an ι):fC f (D++[r])=fC f D+f r:=by simp[fC]
theorem Inv.spawn(h:Inv E L K gs w t D pend none g 0)(hrw:(K 0).rw=[])(bS:stepG E.P true g w= .spawn g' child w #[])(hle:iz.le (K 0)){r:an ι}{cl':zk} 
 (hr:r.left=false)(fA:∀t',Deaf t' gs.size=0→nV E t' gs.size iz child r)
 (hn:r.cnt+lU=pend)(h4:r.c4=0)(h3:r.c3=0)(h2:r.c2=0)
 (iM:(cl'=none∧r.early)∨(∃n,cl'=some (D.length,.kd,n)∧r= .closer∧CK.at E iz child n .kd)):
 ∃kY u,runT E.P (crowd gs w sl) 0=(.next (crowd kY w sl),u)∧Inv E L (fR K gs.size iz) kY w (t++u) (D++[r]) lU cl' g' 0∧0 <gs.size:=by
 have uU:=h.base.size
 have bU:=runT_crowd_spawn (P:=E.P) (sl:=sl) (i:=0) h.main (by simpa using bS)
 have e0:MemOp.ofEvents 0 g.frame.fn g.frame.place #[]= #[]:=rfl
 rw[e0] at bU
 generalize hx:({g:=0,fn:=g.frame.fn,pos:=g.frame.place,act:= .go gs.size}:MemOp)=x at bU
 generalize hy:({g:=gs.size,fn:=child.frame.fn,pos:=g.frame.place,act:= .start}:MemOp)=y at bU
 have ex:x.g=0∧x.act= .go gs.size:=by rw[←hx];exact⟨rfl,rfl⟩
 have ey:y.g=gs.size∧y.act= .start:=by rw[←hy];exact⟨rfl,rfl⟩
 have eu:((#[]:Array MemOp).push x).push y= #[x,y]:=rfl
 rw[eu] at bU
 have hq:∀op∈ #[x,y],op.act.touch?=none:=by intro op ay;simp at ay;rcases ay with rfl|rfl<;>simp[ex.2,ey.2,MemAct.touch?]
 have PI:∀op∈ #[x,y],∀m,op.act≠ .mark m:=by intro op ay;simp at ay;rcases ay with rfl|rfl<;>simp[ex.2,ey.2]
 have hg:∀op∈ #[x,y],op.g=0∨op.g=gs.size:=by intro op ay;simp at ay;rcases ay with rfl|rfl<;>simp[ex.1,ey.1]
 have Mn:Deaf t gs.size=0:=ConcN.Deaf_absent fun i op ho e=>by have:=h.base.ops op (mem_of_getElem? ho);omega
 have yR:∀k,Deaf (t++ #[x,y]) k=Deaf t k:=fun k=>gq t k _ PI
 have ae9:∀p,Knows t 0 p→Knows (t++ #[x,y]) gs.size p:=fun p hp=>ConcN.fork_knows ex ey h.deaf Mn hp
 have pG:=h.base.fit.quiet (u:= #[x,y]) (w':=w) E.Ch h.sy.kC h.sy.lC (Nat.le_refl _) (fun _ _ _=>rfl) hq
 have Y0:iz.rw=[]:=by
  obtain⟨R,hR,_⟩:=hle
  rw[hrw] at hR
  have:=List.append_eq_nil_iff.1 (List.nil_perm.1 hR)
  exact this.1
 have Ar:∀b o,iz.ro b=some o→(K 0).ro b=some o:=fun b o hb=>by
  obtain⟨R,hR,h2⟩:=hle
  rw[hrw] at hR
  have:=List.append_eq_nil_iff.1 (List.nil_perm.1 hR)
  rcases h2 b o hb with h3|h3
  ·exact h3
  rw[this.2] at h3;cases h3
 have afa:=pG.share (i:=0) (n:=gs.size) (by omega) iz Y0 Ar fun b hb p z hz hzb hzw=>by
  rcases bB hz with ⟨_,D5⟩| ⟨_,op,hm,_,hzo⟩
  ·refine ae9 p (h.base.fit.qY 0 b ?_ p z D5 hzb hzw)
   cases mw:iz.ro b with
   |none=>exact absurd mw hb
   |some o=>rw[Ar b o mw];simp
  rw[hq op hm] at hzo;cases hzo
 have HN:∀b,(∀j,¬(K j).knows b)→∀j,¬(fR K gs.size iz j).knows b:=fun b hb j hk=>by
  by_cases e:j=gs.size
  ·subst e;rw[aC] at hk;exact hb 0 (hle.knows hk)
  rw[aF _ _ e] at hk;exact hb j hk
 have iY:=h.sy.Eo
 have oD:∀ {k z},(D++[r])[k]?=some z→(k <D.length∧D[k]?=some z)∨(k=D.length∧z=r):=fun {k z} hk=>by
  rcases Nat.lt_trichotomy k D.length with cG|e|hgt
  ·rw[List.getElem?_append_left cG] at hk;exact .inl ⟨cG,hk⟩
  ·subst e;rw[List.getElem?_append_right (Nat.le_refl _)] at hk;simp at hk;exact .inr ⟨rfl,hk.symm⟩
  rw[List.getElem?_eq_none (by simp;omega)] at hk;cases hk
 have hgs:∀k,k≠0→k <gs.size→((gs.setIfInBounds 0 g').push child)[k]?=gs[k]?:=fun k h0 cG=>by
  rw[Array.getElem?_push_lt (by simpa using cG),←Array.getElem?_eq_getElem,Array.getElem?_setIfInBounds_ne (Ne.symm h0)]
 have hgn:((gs.setIfInBounds 0 g').push child)[gs.size]?=some child:=by
  rw[Array.getElem?_push,if_pos (by simp)]
 refine⟨_,_,bU,⟨⟨afa,by simp[uU],fun k z hk=>?_,fun k hk b hb=>?_,fun op ay=>?_,h.base.same⟩,
  ⟨HN _ h.sy.kW,HN _ h.sy.kC,h.sy.lW,h.sy.lC,h.sy.ne,fun a=>(h.sy.norel a).app fun op ay=>PI op ay _,fun j hj p z hz hzb hzk=>?_,?_,?_,?_,h.sy.chan,h.sy.bal,?_⟩,?_,by rw[yR];exact h.deaf⟩,by omega⟩
 ·rcases oD hk with ⟨cG,jH⟩| ⟨rfl,rfl⟩
  ·obtain⟨q,hqk,aPW⟩:=h.base.ok k z jH
   exact⟨q,by rw[hgs _ (by omega) (by omega)];exact hqk,by rw[aF _ _ (by omega)];exact aPW.other fun op ay=>by rcases hg op ay with e|e<;>rw[e]<;>omega⟩
  refine⟨child,by rw[←uU];exact hgn,?_⟩
  rw[←uU,aC]
  exact fA _ (by rw[yR];exact Mn)
 ·rw[Array.size_push,Array.size_setIfInBounds] at hk
  rw[aF _ _ (by omega)] at hb
  exact h.base.far k (by omega) b hb
 ·rw[Array.size_push,Array.size_setIfInBounds]
  rcases Array.mem_append.1 ay with h'|h'
  ·have:=h.base.ops op h';omega
  rcases hg op h' with e|e<;>rw[e]<;>omega
 ·rcases bB hz with ⟨_,D5⟩| ⟨_,op,hm,_,hzo⟩
  ·rcases hj with rfl| ⟨k,q,rfl,hk,hl⟩
   ·exact(h.sy.plain 0 (.inl rfl) p z D5 hzb hzk).app _
   rcases oD hk with ⟨_,jH⟩| ⟨rfl,rfl⟩
   ·exact(h.sy.plain (k+1) (.inr ⟨k,q,rfl,jH,hl⟩) p z D5 hzb hzk).app _
   rw[←uU];exact ae9 p (h.sy.plain 0 (.inl rfl) p z D5 hzb hzk)
  rw[hq op hm] at hzo;cases hzo
 ·have Nn:=h.sy.said
  rcases iM with ⟨rfl,_⟩| ⟨n,rfl,_,_⟩
  ·intro p z hz hzb hzk
   rcases bB hz with ⟨_,D5⟩| ⟨_,op,hm,_,hzo⟩
   ·exact(Nn p z D5 hzb hzk).app _
   rw[hq op hm] at hzo;cases hzo
  intro _ p z hz hzb hzk
  rcases bB hz with ⟨_,D5⟩| ⟨_,op,hm,_,hzo⟩
  ·rw[←uU];exact ae9 p (Nn p z D5 hzb hzk)
  rw[hq op hm] at hzo;cases hzo
 ·obtain⟨st,sm,ha,m8⟩:=h.sy.cells
  refine⟨st,sm,ha,?_⟩
  rw[vk,vk,vk,vk,h4,h3,h2,show fC an.cnt D+r.cnt+lU=fC an.cnt D+pend by omega]
  rcases iM with ⟨rfl,_⟩| ⟨n,rfl,_,_⟩
  ·exact m8
  have z:∀(f:an ι→Nat),(∀r:an ι,r.early→f r=0)→fC f D=0:=fun f hf=>by
   unfold fC
   rw[List.sum_eq_zero_iff_forall_eq_nat]
   intro a uG
   obtain⟨q,EL,rfl⟩:=List.mem_map.1 uG
   exact hf q (iY q EL)
  have z4:=z an.c4 fun r hr=>by cases r<;>first|rfl|exact hr.elim
  have z3:=z an.c3 fun r hr=>by cases r<;>first|rfl|exact hr.elim
  have z2:=z an.c2 fun r hr=>by cases r<;>first|rfl|exact hr.elim
  obtain⟨rfl,rfl⟩:=m8.opened rfl
  rw[z4,z3,z2]
  exact .kd
 ·rw[vk];have:=h.sy.BZ;omega
 ·rcases iM with ⟨rfl,Rh⟩| ⟨n,rfl,rfl,pS⟩
  ·intro z hz
   rcases List.mem_append.1 hz with h'|h'
   ·exact iY z h'
   simp at h';subst h';exact Rh
  refine⟨by simp,fun k hk=>?_,by rw[yR,←uU];exact Mn,⟨child,by rw[←uU];exact hgn,by rw[←uU,aC];exact pS⟩,fun⟨_,e⟩=>(by cases e)⟩
  rcases oD hk with ⟨_,jH⟩| ⟨e,_⟩
  ·exact(iY _ (List.mem_of_getElem? jH)).elim
  exact e
 rw[Array.getElem?_push_lt (by simp;omega),←Array.getElem?_eq_getElem,Array.getElem?_setIfInBounds_self_of_lt (by omega)]
theorem IW{os:List ι}{o:ι}(hs:g.status= .running)(hrw:s.rw=[])(bS:∀w,aQ s w→stepG E.P true g w= .spawn g' child w #[])(hw:eS E.P false (E.IM o) child s)
 (hT:TC E L Q 0 false (os++[o]) 0 g' s):TC E L Q 1 false os 0 g s:=by
 refine wR hs (fun K gs w t D cl sl m iM hI ho hK hm=>?_) fun e=>(by cases e)
 subst hK
 have hcn:cl=none:=by cases cl<;>simp_all
 subst hcn
 obtain⟨tr,iz,hle,htr⟩:=hw
 obtain⟨kY,u,hr,yT,h0⟩:=hI.spawn (sl:=sl) (r:= .work o tr) (cl':=none) (lU:=0) hrw (bS w (hI.base.fit.jK 0)) hle rfl (fun t' hd=>⟨hd,htr⟩) rfl rfl rfl rfl (.inl ⟨rfl,trivial⟩)
 exact Ends.next (hm.trans hr) (hT _ kY w _ _ none sl rfl yT (by simp[kH,List.filterMap_append,an.VE] at ho ⊢;exact ho) (by rw[aF _ _ (by omega)];exact St.le_refl _))
theorem IX{os:List ι}(hs:g.status= .running)(hrw:s.rw=[])(bS:∀w,aQ s w→stepG E.P true g w= .spawn g' child w #[])(hw:E.closes s child)
 (hT:TC E L Q 0 true os 0 g' s):TC E L Q 0 false os 0 g s:=by
 refine wR hs (fun K gs w t D cl sl m iM hI ho hK hm=>?_) fun e=>(by cases e)
 subst hK
 have hcn:cl=none:=by cases cl<;>simp_all
 subst hcn
 obtain⟨n,hn⟩:=hw
 obtain⟨kY,u,hr,yT,h0⟩:=hI.spawn (sl:=sl) (iz:=K 0) (r:= .closer) (cl':=some (D.length,.kd,n)) (lU:=0) hrw (bS w (hI.base.fit.jK 0)) (St.le_refl _) rfl (fun t' hd=>trivial) rfl rfl rfl rfl (.inr ⟨n,rfl,rfl,hn⟩)
 exact Ends.next (hm.trans hr) (hT _ kY w _ _ _ sl rfl yT (by rw[kH,List.filterMap_append];simp only[List.filterMap_cons,an.VE,List.filterMap_nil,List.append_nil];exact ho) (by rw[aF _ _ (by omega)];exact St.le_refl _))
end
section
variable {ι:Type} {E:dO ι} {Q:Machine→Outcome→World→Trace→Prop} {g:Goroutine} {s s':St}
theorem NP{L:Nat→Option Obj}(hs:g.status= .running)(dR:E.Wg≠E.Ch)
 (hW:(E.Wg,wgBlock E.ty 0 0)∈s.rw)(hC:∃tm,(E.Ch,Obj.chan 0 #[] false 0 0 tm)∈s.rw)
 (hle:s'.le s)(hkW:¬s'.knows E.Wg)(hkC:¬s'.knows E.Ch)(kM:∀b,s'.iW b→L b=none)
 (hL:∀b o,L b=some o→s.has b o∧b≠E.Wg∧b≠E.Ch)
 (hT:TC E L Q 0 false [] 0 g s'):TL E.P eC (fun _=>none) (Calm E.os E.out) Q g s:=by
 intro K gs w t q sl hLv h0 aQt hd ⟨asN,aeh⟩
 have hLv:=hLv.le aQt
 have Y0:(fR K 0 s) 0=s:=aC _ _ _
 have pH:=hLv.fit.jK 0
 rw[Y0] at pH
 obtain⟨tm,hC⟩:=hC
 have hWw:=pH.rw _ _ hW
 have hCw:=pH.rw _ _ hC
 have hex:∀i,i <q.length→∃d,∃x,gs[i+1]?=some x∧QuitsD E.P (q.getD i 0) d x∧Deaf t (i+1)=d∧eC t (i+1):=fun i hi=>by
  obtain⟨x,d,h1,h2,h3,h4⟩:=hLv.ok i _ (List.getElem?_eq_getElem hi)
  exact⟨d,x,h1,by rw[List.getD_eq_getElem?_getD,List.getElem?_eq_getElem hi];exact h2,h3,h4⟩
 let D:List (an ι):=(List.range q.length).map fun i=>an.leave (q.getD i 0) (Deaf t (i+1)) false
 have hD:∀i r,D[i]?=some r→i <q.length∧r=an.leave (q.getD i 0) (Deaf t (i+1)) false:=fun i r hi=>by
  simp only[D,List.getElem?_map] at hi
  obtain⟨j,hj,rfl⟩:=Option.map_eq_some_iff.1 hi
  obtain⟨cG,rfl⟩:=List.getElem?_eq_some_iff.1 hj
  simp only[List.length_range] at cG
  simp only[List.getElem_range]
  exact⟨cG,trivial⟩
 have iX:∀r∈D,∃a b,r=an.leave a b false:=fun r hr=>by
  obtain⟨i,hi⟩:=List.getElem?_of_mem hr
  exact⟨_,_,(hD i r hi).2⟩
 have hzero:∀f:an ι→Nat,(∀a b,f (.leave a b false)=0)→fC f D=0:=fun f hf=>by
  unfold fC
  rw[List.sum_eq_zero_iff_forall_eq_nat]
  intro x hx
  obtain⟨r,hr,rfl⟩:=List.mem_map.1 hx
  obtain⟨a,b,rfl⟩:=iX r hr
  exact hf a b
 let K':Nat→St:=fun j=>if j=0 then s' else ⟨fun _=>none,[]⟩
 have WN:K' 0=s':=by simp[K']
 have hKn:∀j,j≠0→K' j=⟨fun _=>none,[]⟩:=fun j hj=>by simp[K',hj]
 have none:∀j b,j≠0→¬(K' j).knows b:=fun j b hj hk=>by
  rw[hKn j hj] at hk
  rcases hk with hk| ⟨o,ho⟩
  ·exact hk rfl
  cases ho
 have Gx:Fit (fun _=>Option.none) K' w t:=hLv.fit.le fun j=>by
  by_cases e:j=0
  ·subst e;rw[WN,Y0];exact hle
  rw[hKn j e];exact⟨(fR K 0 s j).rw,by simp,fun b o hb=>(by cases hb)⟩
 have afa:Fit L K' w t:=by
  refine⟨fun b o hl=>pH.has (hL b o hl).1,fun i b ho=>?_,Gx.jK,Gx.sep,Gx.perm,Gx.qY,Gx.old,Gx.clean,fun p x b hx hk hb=>⟨?_,(Gx.sync p x b hx hk hb).2⟩⟩
  ·by_cases e:i=0
   ·subst e;rw[WN] at ho;exact kM b ho
   exact absurd (.inr ho) (none i b e)
  cases hl:L b with
  |none=>rfl
  |some o=>
   have:=(hLv.fit.sync p x b hx hk hb).2 0
   rw[Y0] at this
   rcases(hL b o hl).1 with h1|h1
   ·exact absurd (.inl (by rw[h1];simp)) this
   exact absurd (.inr ⟨o,h1⟩) this
 have hLb:∀b,(b=E.Wg∨b=E.Ch)→L b=Option.none:=fun b hb=>by
  cases hl:L b with
  |none=>rfl
  |some o=>
   rcases hb with e|e
   ·exact absurd e (hL b o hl).2.1
   exact absurd e (hL b o hl).2.2
 have hKk:∀b,¬s'.knows b→∀j,¬(K' j).knows b:=fun b hb j=>by
  by_cases e:j=0
  ·subst e;rw[WN];exact hb
  exact none j b e
 have anG:∀p x,touchAt t p=some x→blk x.loc=some E.Wg→Knows t 0 p:=fun p x hx hb=>hLv.fit.perm 0 E.Wg (by rw[Y0];exact⟨_,hW⟩) p x hx hb
 have azi:∀p x,touchAt t p=some x→E.At x→Knows t 0 p:=fun p x hx hb=>hb.elim (anG p x hx) fun hb=>hLv.fit.perm 0 E.Ch (by rw[Y0];exact⟨_,hC⟩) p x hx hb
 refine hT K' gs w t D Option.none sl rfl ⟨⟨afa,by simp[D,hLv.size],fun i r hi=>?_,fun i hi b=>?_,hLv.ops,aeh⟩,
  ⟨hKk _ hkW,hKk _ hkC,hLb _ (.inl rfl),hLb _ (.inr rfl),dR,asN,fun j hj p x hx hb _=>?_,fun p x hx hb _=>anG p x hx hb,⟨0,0,hWw,?_⟩,?_,⟨0,0,tm,hCw⟩,fun a b c hx=>?_,fun r hr=>?_⟩,h0,hd⟩ ?_ (by rw[WN];exact St.le_refl _)
 ·obtain⟨cG,rfl⟩:=hD i r hi
  obtain⟨d,x,h1,h2,h3,h4⟩:=hex i cG
  exact⟨x,h1,hKn _ (by omega),by rw[h3];exact h2,rfl,(fun e=>(by cases e)),fun _=>h4⟩
 ·exact none i b (by have:=hLv.size;omega)
 ·rcases hj with rfl| ⟨k,r,rfl,hk,hl⟩
  ·exact azi p x hx hb
  obtain⟨_,rfl⟩:=hD k r hk;cases hl
 ·rw[hzero an.cnt fun _ _=>rfl,hzero an.c4 fun _ _=>rfl,hzero an.c3 fun _ _=>rfl,hzero an.c2 fun _ _=>rfl]
  have:=Md.start (mx:=E.max) (n:=0)
  simpa using this
 ·rw[hzero an.cnt fun _ _=>rfl];omega
 ·rw[hCw] at hx
  simp only[Option.some.injEq,Obj.chan.injEq] at hx
  omega
 ·obtain⟨a,b,rfl⟩:=iX r hr;rfl
 unfold kH
 rw[List.filterMap_eq_nil_iff]
 intro r hr
 obtain⟨a,b,rfl⟩:=iX r hr;rfl
end
theorem Da(os:Os)(out:Array (Nat×ByteArray)):Xz (Calm os out) where
 grow:=fun _ _ _ _ h hu=>⟨fun a=>(h.1 a).app fun op ay=>hu op ay a,h.2⟩
 drawn:=fun _ _ _ _ h=>h
 le:=fun _ _ _ _ h _=>h
 own:=fun _ _ _ _ _ _ _ h ht hu=>⟨fun a=>(h.1 a).app fun op ay=>hu op ay a,ht.os.trans h.2.1,ht.output.trans h.2.2⟩
def T0(P:Program)(os:Os)(out:Array (Nat×ByteArray))(Post:Value→World→Prop):Goroutine→St→Prop:=TL P eC (fun _=>none) (Calm os out) (Good P Post)
theorem sw(P:Program)(os:Os)(out:Array (Nat×ByteArray))(Post:Value→World→Prop):Closed P true (T0 P os out Post):=IT Dk (Da os out) _
theorem XO{os:Os}{out:Array (Nat×ByteArray)}{Post:Value→World→Prop}{s:St}(hs:g.status= .running)
 (bS:∀w,aQ s w→w.os=os→w.output=out→∃v w' es s',stepG P true g w= .ended (.done v) w' es∧Post v w'∧Trans s w s' w' es):T0 P os out Post g s:=by
 refine KG Dk (Da os out) hs fun K gs w t q sl m hL h0 hK hd hi hm hmg=>?_
 subst hK
 obtain⟨v,w',es,s',hgo,hp,ht⟩:=bS w (hL.fit.jK 0) hi.2.1 hi.2.2
 have hr:=ConcN.runT_crowd_ended (P:=P) (sl:=sl) (i:=0) h0 (by simpa using hgo)
 have pG:=hL.fit.own ht g.frame.fn g.frame.place
 generalize hu:MemOp.ofEvents 0 g.frame.fn g.frame.place es=u at hr pG
 have JU:∀op∈u,op.g=0:=by rw[←hu];exact fun op ay=>Go.ConcR.g_of_ofEvents op ay
 refine⟨0,m,.done v,w',t++u,by simp[runNT,hm,hr],rfl,by simp[step,hm,hr],v,rfl,hp,pG.clean,fun i k hk dR hc=>?_,⟨fun x hx=>?_,by rw[hmg.2];rfl⟩,fun i x hx dR=>?_⟩
 ·obtain⟨op,ho,beG⟩:=Option.map_eq_some_iff.1 hk
  cases k with
  |zero=>exact absurd rfl dR
  |succ k=>
   have cG:op.g <gs.size:=by
    rcases Array.mem_append.1 (mem_of_getElem? ho) with h'|h'
    ·exact hL.ops op h'
    rw[JU op h',hL.size];omega
   have hkq:k <q.length:=by have:=hL.size;omega
   obtain⟨_,_,_,_,_,bV⟩:=hL.ok k _ (List.getElem?_eq_getElem hkq)
   exact(bV.other fun op ay=>by rw[JU op ay];omega) i hk hc
 ·rw[hmg.1] at hx
  obtain⟨j,hj⟩:=List.getElem?_of_mem hx
  rw[List.getElem?_drop,Array.getElem?_toList] at hj
  have hjq:j <q.length:=by have:=lt_size hj;have:=hL.size;omega
  obtain⟨y,d,hy,hq,_⟩:=hL.ok j _ (List.getElem?_eq_getElem hjq)
  rw[Nat.add_comm] at hj
  rw[hj] at hy
  obtain rfl:=Option.some.inj hy
  exact⟨_,hq.leaves⟩
 rw[hmg.1] at hx
 cases i with
 |zero=>exact absurd rfl dR
 |succ j=>
  have hjq:j <q.length:=by have:=lt_size hx;have:=hL.size;omega
  obtain⟨y,d,hy,hq,hdd,_⟩:=hL.ok j _ (List.getElem?_eq_getElem hjq)
  rw[hx] at hy
  obtain rfl:=Option.some.inj hy
  refine⟨q[j],?_⟩
  have e:(t++u).deaf (j+1) (t++u).size=d:=by
   have:=gY t u (g:=j+1) fun op ay=>by rw[JU op ay];omega
   unfold Deaf at this hdd
   rw[this];exact hdd
  rw[e]
  exact hq.hears m.world
theorem abu{Post:Value→World→Prop}{s:St}{w:World}(ha:aQ s w)(h:T0 P w.os w.output Post g s):Ends P (Good P Post) (solo g w) #[]:=by
 rw[solo_eq_crowd]
 have HJ:∀p x,touchAt #[] p=some x→False:=fun p x hx=>by simp[touchAt,Trace.act?] at hx
 have hn:∀i,i≠0→∀b,¬((if i=0 then s else ⟨fun _=>none,[]⟩:St)).knows b:=fun i hi b hk=>by
  rw[if_neg hi] at hk
  rcases hk with hk| ⟨o,ho⟩
  ·exact hk rfl
  cases ho
 refine h (fun j=>if j=0 then s else ⟨fun _=>none,[]⟩) #[g] w #[] [] none ⟨⟨(fun _ _ e=>(by cases e)),fun _ _ _=>rfl,fun i=>?_,fun i j b HM ho hk=>?_,fun _ _ _ p x hx=>(HJ p x hx).elim,fun _ _ _ p x hx=>(HJ p x hx).elim,
  fun p x _ hx=>(HJ p x hx).elim,(fun said ⟨i,j,_,⟨a,b,h1,_⟩,_⟩=>by simp[Trace.act?] at h1),fun p x _ hx=>(HJ p x hx).elim⟩,rfl,fun i n hi=>by simp at hi,fun i b hi hk=>hn i hi b hk,by simp⟩ rfl (by simp only[if_true];exact St.le_refl _) rfl ⟨fun a i=>by simp[Trace.act?],rfl,rfl⟩
 ·by_cases e:i=0
  ·simp only[e,if_true];exact ha
  simp only[if_neg e];exact⟨(fun _ _ e=>(by cases e)),(fun _ _ e=>(by cases e)),by simp,(fun _ _ e=>(by cases e))⟩
 by_cases e:j=0
 ·exact hn i (fun e'=>HM (e'.trans e.symm)) b (.inr ho)
 exact hn j e b hk
section
variable {ι:Type} {E:dO ι} {L:Nat→Option Obj} {pend d0:Nat} {Q:Machine→Outcome→World→Trace→Prop} {g g':Goroutine} {s:St} {os:List ι}
theorem U4(hs:g.status= .running)(bS:∀w,E.live w→stepG E.P true g w= .go g' w #[])(hT:TC E L Q pend false os d0 g' s):TC E L Q pend false os d0 g s:=
 ED (es:= #[]) (lU:=pend) hs rfl (fun w st sm ha hb _=>⟨w,bS w ⟨st,sm,ha⟩,eJ.refl w,by obtain⟨rfl,rfl⟩:=hb rfl;exact ha⟩) (by simp) rfl id hT
theorem ajq(hs:g.status= .running)(bS:∀w,E.live w→stepG E.P true g w= .go g' w #[said (.read (smA E.Wg))])(hT:TC E L Q pend false os d0 g' s):TC E L Q pend false os d0 g s:=by
 refine wR hs (fun K gs w t D cl sl m iM hI ho hK hm=>?_) fun e=>(by cases e)
 subst hK
 have hcn:cl=none:=by cases cl<;>simp_all
 subst hcn
 obtain⟨st,sm,ha,_⟩:=hI.sy.cells
 have hgo:=bS w ⟨st,sm,ha⟩
 have e1:MemOp.ofEvents 0 g.frame.fn g.frame.place #[said (.read (smA E.Wg))]= #[{g:=0,fn:=g.frame.fn,pos:=g.frame.place,act:= .mark (.read (smA E.Wg))}]:=by rw[ofEvents_eq];simp[said,Go.ConcR.ofEvent_mk]
 have asH:∀op∈MemOp.ofEvents 0 g.frame.fn g.frame.place #[said (.read (smA E.Wg))],op.g=0∧op.act= .mark (.read (smA E.Wg)):=by
  rw[e1];intro op ay;simp only[List.mem_toArray,List.mem_singleton] at ay;subst ay;exact⟨rfl,rfl⟩
 have htc:∀op∈MemOp.ofEvents 0 g.frame.fn g.frame.place #[said (.read (smA E.Wg))],∀x,op.act.touch?=some x→x=⟨.cell (smA E.Wg),false,.said⟩:=fun op ay x hx=>by
  rw[(asH op ay).2] at hx;simp only[MemAct.touch?,Option.some.injEq] at hx;exact hx.symm
 obtain⟨kY,u,cl',hr,yT,TA⟩:=hI.go0 (sl:=sl) (s':=K 0) (lU:=pend) hgo ⟨rfl,rfl⟩ (hI.sy.kW 0) (hI.sy.kC 0) rfl (by
  rw[lS]
  refine hI.base.fit.beside E.Wg 0 hI.sy.kW hI.sy.lW (lt_size ha) (Nat.le_refl _) (fun _ _ _=>rfl) (fun op ay=>(asH op ay).1) fun op ay x hx=>?_
  obtain rfl:=htc op ay x hx
  refine⟨rfl,fun sd p a uG hc=>?_⟩
  have hl:blk a.loc=some E.Wg:=by rw[hc.1];rfl
  rcases hc.2.2.2 with h3|h3|h3
  ·exact hI.sy.plain 0 (.inl rfl) p a uG (.inl hl) h3
  ·cases h3
  ·exact hI.sy.said p a uG hl h3.2.1)
  (fun op ay x hx _=>by obtain rfl:=htc op ay x hx;exact⟨by simp,fun _=>rfl⟩) (fun op ay a=>by rw[(asH op ay).2];simp) (hI.Hh rfl) hI.sy.BZ
 exact Ends.next (hm.trans hr) (hT _ kY w _ D cl' sl (TA.trans iM) yT ho (by rw[aC];exact St.le_refl _))
end
abbrev Ky:=Option Value×Option Value
abbrev jq:Ky:=(none,none)
def Hj:Ky→Nat→Option Value
 | (a,_),0=>a
 | (_,b),1=>b
 |_,_=>none
theorem QK(off:Nat):Hj jq off=none:=by
 match off with
 |0=>rfl
 |1=>rfl
 |_+2=>rfl
def MT:Ky→Nat→Value→Ky
 | (_,b),0,v=>(some v,b)
 | (a,_),1,v=>(a,some v)
 |c,_,_=>c
inductive RH(α:Type) where
 |ok (a:α)
 |halt (h:Halt)
structure VO(α:Type) where
 r:RH α
 ws:List (Nat×Value)
 es:List Event
 bs:List Nat
def uP(P:Program)(ty:TypeId):Sem α→Ky→Option (VO α)
 | .pure a,_=>some ⟨.ok a,[],[],[]⟩
 | .load m a k,c=>match a.spot with
  |some _=>none
  |none=>match Hj c a.off with
   |some v=>match uP P ty (k v) c with
    |some o=>some ⟨o.r,o.ws,⟨.cell a,false,m== .atomic⟩::o.es,a.block::o.bs⟩
    |none=>none
   |none=>none
 | .store m a v k,c=>match a.spot with
  |some _=>none
  |none=>bif single v then (match Hj c a.off with
   |some _=>match uP P ty k (MT c a.off v) with
    |some o=>some ⟨o.r,(a.off,v)::o.ws,⟨.cell a,true,m== .atomic⟩::o.es,a.block::o.bs⟩
    |none=>none
   |none=>none) else none
 | .shape r k,c=>match uP P ty (k (some (ty,2))) c with
  |some o=>some ⟨o.r,o.ws,o.es,r::o.bs⟩
  |none=>none
 | .frozen a k,c=>match uP P ty (k false) c with
  |some o=>some ⟨o.r,o.ws,o.es,a.block::o.bs⟩
  |none=>none
 | .program k,c=>uP P ty (k P) c
 | .mark m k,c=>match uP P ty k c with
  |some o=>some ⟨o.r,o.ws,⟨.mark m,false,true⟩::o.es,o.bs⟩
  |none=>none
 | .halt h,_=>some ⟨.halt h,[],[],[]⟩
 |_,_=>none
def mf(ty:TypeId)(W:Nat)(w:World)(c:Ky):Prop:=∃a b,w.heap[W]?=some (.cells #[a,b] ty)∧(∀x,c.1=some x→a=x)∧∀x,c.2=some x→b=x
theorem mf.abE{w:World}{c:Ky}(h:mf ty W w c):∃a b,w.heap[W]?=some (.cells #[a,b] ty):=by
 obtain⟨a,b,h,_⟩:=h
 exact⟨a,b,h⟩
def Lg(W:Nat)(w:World)(ws:List (Nat×Value)):World:=ws.foldl (fun w x=>w.setCell ⟨W,x.1,none⟩ x.2) w
def RH.to(w:World):RH α→Result α
 | .ok a=> .ok a w
 | .halt h=> .halt h w
theorem Hi{w:World}{c:Ky}(h:mf ty W w c){v:Value}(hv:Hj c off=some v):w.cell? ⟨W,off,none⟩=some v:=by
 obtain⟨p,q,h,h1,h2⟩:=h
 unfold Hj at hv
 split at hv<;>try (cases hv;done)
 ·rw[←h1 _ hv];simp[World.cell?,h]
 rw[←h2 _ hv];simp[World.cell?,h]
theorem ZP{w:World}{c:Ky}(h:mf ty W w c){u v:Value}(hv:Hj c off=some u):mf ty W (w.setCell ⟨W,off,none⟩ v) (MT c off v):=by
 obtain⟨p,q,h,h1,h2⟩:=h
 unfold Hj at hv
 split at hv<;>try (cases hv;done)
 ·exact⟨v,q,by simp[World.setCell,Array.getElem?_modify,h],by simp[MT],fun x hx=>h2 x hx⟩
 exact⟨p,v,by simp[World.setCell,Array.getElem?_modify,h],fun x hx=>h1 x hx,by simp[MT]⟩
theorem abi{w:World}{a b:Value}(h:w.heap[W]?=some (.cells #[a,b] ty)) (off:Nat) (s:Option Nat):w.frozen? ⟨W,off,s⟩=false:=by
 simp[World.frozen?,h]
theorem KP(x:Sem α):∀ {c:Ky} {o:VO α} {w:World} (es:Array Event),uP P ty x c=some o→(∀b∈o.bs,b=W)→((c=jq∧o.bs=[])∨mf ty W w c)→x.runT P w es=(o.r.to (Lg W w o.ws),es++o.es.toArray):=by
 induction x with
 |pure a=>intro c o w es h hb hc;simp only[uP,Option.some.injEq] at h;subst h;simp[Sem.runT,RH.to,Lg]
 |halt a=>intro c o w es h hb hc;simp only[uP,Option.some.injEq] at h;subst h;simp[Sem.runT,RH.to,Lg]
 |load m a k ih=>
  intro c o w es h hb hc
  simp only[uP] at h
  split at h<;>try (cases h;done)
  rename_i hs
  split at h<;>try (cases h;done)
  rename_i v hv
  split at h<;>try (cases h;done)
  rename_i o1 h1
  simp only[Option.some.injEq] at h;subst h
  have e:a=⟨W,a.off,none⟩:=by
   have:=hb a.block (by simp)
   rcases a with ⟨x,y,z⟩
   simp only at hs this
   subst hs this;rfl
  have sQ:mf ty W w c:=hc.elim (fun hh=>by rw[hh.1] at hv;rw[QK] at hv;cases hv) id
  have GB:w.cell? a=some v:=by rw[e];exact Hi sQ hv
  simp only[Sem.runT,GB]
  rw[ih v _ h1 (fun b hm=>hb b (by simp[hm])) (.inr sQ)]
  simp
 |store m a v k ih=>
  intro c o w es h hb hc
  simp only[uP] at h
  split at h<;>try (cases h;done)
  rename_i hs
  cases hsg:single v with
  |false=>rw[hsg] at h;cases h
  |true=>
  rw[hsg] at h;simp only[cond_true] at h
  split at h<;>try (cases h;done)
  rename_i u hu
  split at h<;>try (cases h;done)
  rename_i o1 h1
  simp only[Option.some.injEq] at h;subst h
  have e:a=⟨W,a.off,none⟩:=by
   have:=hb a.block (by simp)
   rcases a with ⟨x,y,z⟩
   simp only at hs this
   subst hs this;rfl
  have sQ:mf ty W w c:=hc.elim (fun hh=>by rw[hh.1] at hu;rw[QK] at hu;cases hu) id
  have GB:w.cell? a=some u:=by rw[e];exact Hi sQ hu
  have hfz:w.frozen? a=false:=by
   obtain⟨p,q,Wo⟩:=sQ.abE
   rw[e];exact abi Wo _ _
  have oW:=ZP (v:=v) sQ hu
  have key:(Sem.store m a v k).runT P w es=k.runT P (w.setCell a v) (es.push ⟨.cell a,true,m== .atomic⟩):=by
   cases v<;>first| (cases hsg;done)|simp[Sem.runT,GB,hfz]
  rw[key,ih _ h1 (fun b hm=>hb b (by simp[hm])) (.inr (by rw[e];exact oW))]
  simp only[Lg,List.foldl_cons]
  rw[←e]
  simp
 |shape r k ih=>
  intro c o w es h hb hc
  simp only[uP] at h
  split at h<;>try (cases h;done)
  rename_i o1 h1
  simp only[Option.some.injEq] at h;subst h
  have e:r=W:=hb r (by simp)
  have sQ:mf ty W w c:=hc.elim (fun hh=>by cases hh.2) id
  have hsh:w.shape? r=some (ty,2):=by
   obtain⟨p,q,Wo⟩:=sQ.abE
   rw[e];simp[World.shape?,Wo]
  simp only[Sem.runT,hsh]
  exact ih _ _ h1 (fun b hm=>hb b (by simp[hm])) (.inr sQ)
 |frozen a k ih=>
  intro c o w es h hb hc
  simp only[uP] at h
  split at h<;>try (cases h;done)
  rename_i o1 h1
  simp only[Option.some.injEq] at h;subst h
  have e:a.block=W:=hb a.block (by simp)
  have sQ:mf ty W w c:=hc.elim (fun hh=>by cases hh.2) id
  have hsh:w.frozen? a=false:=by
   obtain⟨p,q,Wo⟩:=sQ.abE
   rcases a with ⟨x,y,z⟩
   simp only at e;subst e;exact abi Wo _ _
  simp only[Sem.runT,hsh]
  exact ih _ _ h1 (fun b hm=>hb b (by simp[hm])) (.inr sQ)
 |program k ih=>
  intro c o w es h hb hc
  simp only[uP] at h
  simp only[Sem.runT]
  exact ih _ _ h hb hc
 |mark m k ih=>
  intro c o w es h hb hc
  simp only[uP] at h
  split at h<;>try (cases h;done)
  rename_i o1 h1
  simp only[Option.some.injEq] at h;subst h
  simp only[Sem.runT]
  rw[ih _ h1 (fun b hm=>hb b hm) hc]
  simp
 |new o k ih=>intro c o w es h;cases h
 |freeze a n k ih=>intro c o w es h;cases h
 |getObj r k ih=>intro c o w es h;cases h
 |setObj r o k ih=>intro c o w es h;cases h
 |choose q k ih=>intro c o w es h;cases h
 |sys q k ih=>intro c o w es h;cases h
def au4(fr:Frame):Option Frame:=
 match fr.todo with
 | []=>match fr.roundOf with
  |none=>some {fr with mode:= .returning}
  |some _=>none
 | .code .ret::_=>match fr.roundOf with
  |none=>some {fr with mode:= .returning}
  |some _=>none
 | .code .skip::k=>some {fr with todo:=k}
 | .code (.label _)::k=>some {fr with todo:=k}
 | .inBlock _::k=>some {fr with todo:=k}
 | .inScope _::k=>some {fr with todo:=k}
 | .code (.seq a b)::k=>some {fr with todo:= .code a:: .code b::k}
 | .code (.cond c x y)::k=>match fr.eval c with
  | .bool b=>some {fr with todo:= .code (if b then x else y)::k}
  |_=>none
 | .code (.block id body)::k=>some {fr with todo:= .code body:: .inBlock id::k}
 | .code (.loop body)::k=>some {fr with todo:= .code body:: .inLoop body::k}
 | .inLoop body::k=>some {fr with todo:= .code body:: .inLoop body::k}
 | .code (.scope body)::k=>some {fr with todo:= .code body:: .inScope body::k}
 | .code (.exit id)::k=>match exitTo id k with
  |some k'=>some {fr with todo:=k'}
  |none=>none
 | .code (.region _ ops false)::k=>some {fr with todo:= .inRegion ops (List.range ops.size)::k}
 | .inRegion _ []::k=>some {fr with todo:=k}
 | .inRegion ops (i::_)::_=>if ((ops[i]?).map (Region.wanted · (yielded ops fr.tmps))).getD false then none else some (fr.finish undef)
 |_=>none
theorem amq(hm:fr.mode= .run)(h:au4 fr=some nP)(w:World):stepG P main (G fr cs) w= .go (G nP cs) w #[]:=by
 rcases fr with ⟨fn,tmps,todo,defers,mode,kind,ro⟩
 simp only at hm;subst hm
 unfold au4 at h
 simp only at h
 split at h
 all_goals try (cases h;done)
 all_goals try (simp only[Option.some.injEq] at h;subst h;simp[G,stepG,stepG.exec];done)
 ·split at h<;>try (cases h;done)
  simp only[Option.some.injEq] at h;subst h;simp[G,stepG,stepG.exec]
 ·split at h<;>try (cases h;done)
  simp only[Option.some.injEq] at h;subst h;simp[G,stepG,stepG.exec]
 ·split at h<;>try (cases h;done)
  rename_i b hb
  simp only[Option.some.injEq] at h;subst h
  simp only[G,stepG,stepG.exec,hb]
 ·split at h<;>try (cases h;done)
  rename_i b hb
  simp only[Option.some.injEq] at h;subst h
  simp[G,stepG,stepG.exec,hb]
 split at h<;>try (cases h;done)
 rename_i hw
 simp only[Option.some.injEq] at h;subst h
 simp only[G,stepG,stepG.exec,hw]
 simp
inductive OV where
 |go (fr:Frame) (iB:List Frame)
 |ret (v:Value)
 |aqo
 |block
abbrev OVs:=Option (OV×List (Nat×Value)×List Event×List Nat)
def uA(P:Program)(fn:FuncId)(es:List Event):List Event:=(seen P fn es.toArray).toList
def Wd:CallKind→Bool
 | .early=>true
 |_=>false
def acz(P:Program)(ty:TypeId)(c:Ky)(fr:Frame)(iB:List Frame):OVs:=
 match fr.todo with
 | .inRegion ops (i::_)::_=>bif ((ops[i]?).map (Region.wanted · (yielded ops fr.tmps))).getD false&& !(Wd fr.kind) then (match fr.roundOf,fr.oper? with
  |none,some o=>match uP P ty (execOp fr.eval o) c with
   |some ⟨.ok (.value v),ws,es,bs⟩=>some (.go (fr.finish v) iB,ws,uA P fr.fn es,bs)
   |some ⟨.ok .skip,ws,es,bs⟩=>some (.go (fr.finish undef) iB,ws,uA P fr.fn es,bs)
   |some ⟨.ok (.enter f args),ws,es,bs⟩=>some (.go (Frame.enter P f args .normal) (fr::iB),ws,uA P fr.fn es,bs)
   |some ⟨.ok (.defer d),ws,es,bs⟩=>some (.go ({fr with defers:=d::fr.defers}.finish undef) iB,ws,uA P fr.fn es,bs)
   |some ⟨.halt .blocked,ws,_,bs⟩=>some (.block,ws,[],bs)
   |_=>none
  |_,_=>none) else none
 |_=>none
def aAk:Target→Bool
 | .fn .. =>true
 |_=>false
def apP(P:Program)(ty:TypeId)(c:Ky)(fr:Frame)(iB:List Frame):OVs:=
 match fr.defers with
 | []=>match P.funcs[fr.fn]? with
  |some fn=>match uP P ty (results fn fr.tmps) c with
   |some ⟨.ok v,ws,es,bs⟩=>match iB with
    |q::gz=>match fr.kind with
     | .normal=>some (.go (q.finish v) gz,ws,uA P fr.fn es,bs)
     | .deferred=>match q.mode with
      | .returning=>some (.go q gz,ws,uA P fr.fn es,bs)
      |_=>none
     |_=>none
    | []=>match fr.kind with
     | .normal=>some (.ret v,ws,uA P fr.fn es,bs)
     | .deferred=>some (.aqo,ws,uA P fr.fn es,bs)
     |_=>none
   |_=>none
  |none=>none
 |d::ds=>bif aAk d.target then (match uP P ty (invoke d.target d.args) c with
  |some ⟨.ok (.value _),ws,es,bs⟩=>some (.go {fr with defers:=ds} iB,ws,uA P fr.fn es,bs)
  |some ⟨.ok (.enter f args),ws,es,bs⟩=>some (.go (Frame.enter P f args .deferred) ({fr with defers:=ds}::iB),ws,uA P fr.fn es,bs)
  |_=>none) else none
def ON(P:Program)(ty:TypeId)(c:Ky)(fr:Frame)(iB:List Frame):OVs:=
 match fr.mode with
 | .run=>match au4 fr with
  |some nP=>some (.go nP iB,[],[],[])
  |none=>acz P ty c fr iB
 | .returning=>apP P ty c fr iB
 |_=>none
def OV.is(P:Program)(main:Bool)(g:Goroutine)(w w':World)(es:Array Event)(cs:List Frame):OV→Prop
 | .go fr iB=>stepG P main g w= .go (G fr (iB++cs)) w' es
 | .ret v=>(∀c HV,cs=c::HV→stepG P main g w= .go (G (c.finish v) HV) w' es)
 | .aqo=>(∀c HV,cs=c::HV→(c.mode= .returning∨∃ch,c.mode= .panicking [⟨ch,false,true⟩])→stepG P main g w= .go (G c HV) w' es)
 | .block=>stepG P main g w= .go {g with status:= .blocked} w' es
section
variable {P:Program} {main:Bool} {ty:TypeId} {W:Nat} {c:Ky} {fr:Frame} {iB cs:List Frame} {w:World} {o:OV} {ws:List (Nat×Value)} {es:List Event} {bs:List Nat}
theorem toArr(P:Program)(fn:FuncId)(es:List Event):(uA P fn es).toArray=seen P fn es.toArray:=by simp[uA]
theorem acy(hm:fr.mode= .run)(h:acz P ty c fr iB=some (o,ws,es,bs))(hb:∀b∈bs,b=W)(hc:(c=jq∧bs=[])∨mf ty W w c)(cs:List Frame)(main:Bool):o.is P main (G fr (iB++cs)) w (Lg W w ws) es.toArray cs:=by
 rcases fr with ⟨fn,tmps,todo,defers,mode,kind,ro⟩
 simp only at hm;subst hm
 unfold acz at h
 simp only at h
 split at h<;>try (cases h;done)
 rename_i ops i rest k
 cases hw:(((ops[i]?).map (Region.wanted · (yielded ops tmps))).getD false&& !(Wd kind)) with
 |false=>rw[hw] at h;cases h
 |true=>
 rw[hw] at h;simp only[cond_true] at h
 simp only[Bool.and_eq_true] at hw
 have hk:(kind==CallKind.early)=false:=by cases kind<;>first|rfl|cases hw.2
 split at h<;>try (cases h;done)
 rename_i op ay
 have gL:∀cs,stepG P main (G ⟨fn,tmps,.inRegion ops (i::rest)::k,defers,.run,kind,none⟩ cs) w=stepG.apply P true ⟨fn,tmps,.inRegion ops (i::rest)::k,defers,.run,kind,none⟩ cs none (execOp (Frame.eval ⟨fn,tmps,.inRegion ops (i::rest)::k,defers,.run,kind,none⟩) op) w:=by
  intro cs
  simp only[G,stepG,stepG.exec,hw.1,if_true,stepG.oper,ay]
 split at h<;>try (cases h;done)
 all_goals
  rename_i heq hv
  simp only[Option.some.injEq,Prod.mk.injEq] at h
  obtain⟨rfl,rfl,rfl,rfl⟩:=h
  have bU:=KP _ (w:=w) #[] hv hb hc
  simp only[RH.to,Array.empty_append] at bU
  simp only[OV.is]
  rw[gL]
  simp only[stepG.apply,bU,if_true,hk,Bool.false_eq_true,if_false,GStep.after,Array.append_empty,G,toArr]
 all_goals first|rfl| (simp[seen_none];done)
theorem ajl(hm:fr.mode= .returning)(h:apP P ty c fr iB=some (o,ws,es,bs))(hb:∀b∈bs,b=W)(hc:(c=jq∧bs=[])∨mf ty W w c)(cs:List Frame)(main:Bool):o.is P main (G fr (iB++cs)) w (Lg W w ws) es.toArray cs:=by
 rcases fr with ⟨fn,tmps,todo,defers,mode,kind,ro⟩
 simp only at hm;subst hm
 unfold apP at h
 simp only at h
 split at h
 ·split at h<;>try (cases h;done)
  rename_i f hf
  split at h<;>try (cases h;done)
  rename_i v ws' ei wG hv
  have bU:=fun hb hc=>KP _ (w:=w) #[] hv (W:=W) hb hc
  simp only[RH.to,Array.empty_append] at bU
  have key:(∀b∈wG,b=W)→((c=jq∧wG=[])∨mf ty W w c)→∀cs,stepG P main (G ⟨fn,tmps,todo,[],.returning,kind,ro⟩ cs) w=GStep.after (seen P fn ei.toArray) (doReturn P main ⟨fn,tmps,todo,[],.returning,kind,ro⟩ cs none v (Lg W w ws')):=by
   intro hb hc cs
   simp only[G,stepG,unwind,hf,bU hb hc]
  split at h
  ·split at h<;>try (cases h;done)
   ·simp only[Option.some.injEq,Prod.mk.injEq] at h
    obtain⟨rfl,rfl,rfl,rfl⟩:=h
    simp only[OV.is]
    rw[key hb hc]
    simp only[List.cons_append,doReturn,GStep.after,Array.append_empty,toArr,G]
   split at h<;>try (cases h;done)
   rename_i q gz hmq
   simp only[Option.some.injEq,Prod.mk.injEq] at h
   obtain⟨rfl,rfl,rfl,rfl⟩:=h
   simp only[OV.is]
   rw[key hb hc]
   simp only[List.cons_append,doReturn,hmq,GStep.after,Array.append_empty,toArr,G]
  split at h<;>try (cases h;done)
  ·simp only[Option.some.injEq,Prod.mk.injEq] at h
   obtain⟨rfl,rfl,rfl,rfl⟩:=h
   intro q HV hq
   subst hq
   rw[key hb hc]
   simp only[List.nil_append,doReturn,GStep.after,Array.append_empty,toArr,G]
  simp only[Option.some.injEq,Prod.mk.injEq] at h
  obtain⟨rfl,rfl,rfl,rfl⟩:=h
  intro q HV hq hmq
  subst hq
  rw[key hb hc]
  rcases hmq with hmq| ⟨ch,hmq⟩
  ·simp only[List.nil_append,doReturn,hmq,GStep.after,Array.append_empty,toArr,G]
  simp only[List.nil_append,doReturn,hmq,GStep.after,Array.append_empty,toArr,G]
 rename_i d ds
 cases hd:aAk d.target with
 |false=>rw[hd] at h;cases h
 |true=>
 rw[hd] at h;simp only[cond_true] at h
 rcases d with ⟨tg,args⟩
 cases tg with
 |fn f cap=>
  split at h<;>try (cases h;done)
  all_goals
   rename_i hv
   simp only[Option.some.injEq,Prod.mk.injEq] at h
   obtain⟨rfl,rfl,rfl,rfl⟩:=h
   have bU:=KP _ (w:=w) #[] hv hb hc
   simp only[RH.to,Array.empty_append] at bU
   simp only[OV.is]
   simp only[G,stepG,unwind,callDeferred,bU,GStep.after,toArr,Array.append_empty,Bool.false_and,Bool.false_eq_true,if_false,List.cons_append]
 |_=>cases hd
theorem qZ(h:ON P ty c fr iB=some (o,ws,es,bs))(hb:∀b∈bs,b=W)(hc:(c=jq∧bs=[])∨mf ty W w c)(cs:List Frame)(main:Bool):o.is P main (G fr (iB++cs)) w (Lg W w ws) es.toArray cs:=by
 unfold ON at h
 split at h<;>try (cases h;done)
 ·rename_i hm
  split at h
  ·rename_i nP Zi
   simp only[Option.some.injEq,Prod.mk.injEq] at h
   obtain⟨rfl,rfl,rfl,rfl⟩:=h
   exact amq hm Zi w
  exact acy hm h hb hc cs main
 rename_i hm
 exact ajl hm h hb hc cs main
end
def ahh:Event→Option (Nat×Nat×List Nat)
 | ⟨.mark .disable,false,true⟩=>some (1,0,[])
 | ⟨.mark .enable,false,true⟩=>some (2,0,[])
 | ⟨.mark (.releaseMerge ⟨b,o,none⟩),false,true⟩=>some (3,o,[b])
 | ⟨.mark (.acquire ⟨b,o,none⟩),false,true⟩=>some (4,o,[b])
 | ⟨.mark (.read ⟨b,o,none⟩),false,true⟩=>some (5,o,[b])
 | ⟨.mark (.write ⟨b,o,none⟩),false,true⟩=>some (6,o,[b])
 | ⟨.cell ⟨b,o,none⟩,false,true⟩=>some (7,o,[b])
 | ⟨.cell ⟨b,o,none⟩,true,true⟩=>some (8,o,[b])
 |_=>none
def Ui(W:Nat)(x:Nat×Nat):Event:=
 match x.1 with
 |1=>said .disable
 |2=>said .enable
 |3=>said (.releaseMerge ⟨W,x.2,none⟩)
 |4=>said (.acquire ⟨W,x.2,none⟩)
 |5=>said (.read ⟨W,x.2,none⟩)
 |6=>said (.write ⟨W,x.2,none⟩)
 |7=>⟨.cell ⟨W,x.2,none⟩,false,true⟩
 |_=>⟨.cell ⟨W,x.2,none⟩,true,true⟩
theorem ahg{e:Event}{k o:Nat}{bs:List Nat}(h:ahh e=some (k,o,bs))(hb:∀b∈bs,b=W):e=Ui W (k,o):=by
 unfold ahh at h
 split at h<;>try (cases h;done)
 all_goals
  simp only[Option.some.injEq,Prod.mk.injEq] at h
  obtain⟨rfl,rfl,rfl⟩:=h
 ·rfl
 ·rfl
 all_goals
  have:=hb _ (List.mem_singleton.2 rfl)
  subst this
  rfl
def G9:List Event→Option (List (Nat×Nat)×List Nat)
 | []=>some ([],[])
 |e::l=>match ahh e,G9 l with
  |some (k,o,b),some (r,bs)=>some ((k,o)::r,b++bs)
  |_,_=>none
theorem Km:∀ {es:List Event} {ks:List (Nat×Nat)} {bs:List Nat},G9 es=some (ks,bs)→(∀b∈bs,b=W)→es=ks.map (Ui W)
 | [],ks,bs,h,hb=>by simp only[G9,Option.some.injEq,Prod.mk.injEq] at h;obtain⟨rfl,rfl⟩:=h;rfl
 |e::l,ks,bs,h,hb=>by
  simp only[G9] at h
  split at h<;>try (cases h;done)
  rename_i k o b r wG h1 h2
  simp only[Option.some.injEq,Prod.mk.injEq] at h
  obtain⟨rfl,rfl⟩:=h
  rw[List.map_cons,←ahg h1 (fun x hx=>hb x (by simp[hx])),←Km h2 (fun x hx=>hb x (by simp[hx]))]
abbrev Bl:=Option (List Nat)
def ahH:List Nat→Bl→Bl
 |a,some b=>some (a++b)
 |_,none=>none
def both:Bl→Bl→Bl
 |some a,some b=>some (a++b)
 |_,_=>none
def ahM(f:α→Bl):List α→Bl
 | []=>some []
 |x::l=>both (f x) (ahM f l)
theorem M4{a bs:List Nat}{x:Bl}(h:ahH a x=some bs)(hb:∀b∈bs,b=W):(∀b∈a,b=W)∧∃y,x=some y∧∀b∈y,b=W:=by
 cases x with
 |none=>cases h
 |some y=>
  simp only[ahH,Option.some.injEq] at h;subst h
  exact⟨fun b hm=>hb b (by simp[hm]),y,rfl,fun b hm=>hb b (by simp[hm])⟩
theorem AY{bs:List Nat}{x y:Bl}(h:both x y=some bs)(hb:∀b∈bs,b=W):(∃a,x=some a∧∀b∈a,b=W)∧∃a,y=some a∧∀b∈a,b=W:=by
 cases x with
 |none=>cases h
 |some a=>
  cases y with
  |none=>cases h
  |some b=>
   simp only[both,Option.some.injEq] at h;subst h
   exact⟨⟨a,rfl,fun b hm=>hb b (by simp[hm])⟩,b,rfl,fun b hm=>hb b (by simp[hm])⟩
theorem EW{f:α→Bl}:∀ {l:List α} {bs:List Nat},ahM f l=some bs→(∀b∈bs,b=W)→∀x∈l,∃a,f x=some a∧∀b∈a,b=W
 | [],_,_,_,x,hx=>by cases hx
 |y::l,bs,h,hb,x,hx=>by
  obtain⟨h1,h2,h3,h4⟩:=AY h hb
  rcases List.mem_cons.1 hx with rfl|hx
  ·exact h1
  exact EW h3 h4 x hx
def Dl(P:Program)(ty:TypeId):Nat→Frame→List Frame→(Frame→List Frame→Bl)→Bl
 |0,_,_,_=>none
 |n+1,fr,iB,k=>match ON P ty jq fr iB with
  |some (.go nP gz,[],[],bs)=>ahH bs (Dl P ty n nP gz k)
  |_=>k fr iB
def apr(P:Program)(ty:TypeId)(c:Ky)(fr:Frame)(iB:List Frame):Option (Frame×List Frame×List (Nat×Value)×List (Nat×Nat)×List Nat×List Nat):=
 match ON P ty c fr iB with
 |some (.go nP gz,ws,es,bs)=>match G9 es with
  |some (ks,b2)=>some (nP,gz,ws,ks,bs,b2)
  |none=>none
 |_=>none
def i64(n:Int):Value:= .int .u64 n
def i32(n:Int):Value:= .int .u32 n
def Ut:List (Nat×Nat)→List (Nat×Nat)→Bool
 | [],[]=>true
 | (a,b)::l,(c,d)::m=>Nat.beq a c&&(Nat.beq b d&&Ut l m)
 |_,_=>false
theorem Xp:∀ {l m:List (Nat×Nat)},Ut l m=true→l=m
 | [],[],_=>rfl
 | (a,b)::l,(c,d)::m,h=>by
  simp only[Ut,Bool.and_eq_true] at h
  rw[Nat.eq_of_beq_eq_true h.1,Nat.eq_of_beq_eq_true h.2.1,Xp h.2.2]
 | [],_::_,h=>by simp[Ut] at h
 |_::_,[],h=>by simp[Ut] at h
def ZX:List (Nat×Value)→Option (Nat×IntKind×Int)→Bool
 | [],none=>true
 | [(o,.int k n)],some (o',k',n')=>Nat.beq o o'&&(decide (k=k')&&decide (n=n'))
 |_,_=>false
theorem ZW{l:List (Nat×Value)}(h:ZX l none=true):l=[]:=by
 unfold ZX at h
 split at h
 ·rfl
 ·rename_i heq;cases heq
 cases h
theorem ZV{l:List (Nat×Value)}{o:Nat}{k:IntKind}{n:Int}(h:ZX l (some (o,k,n))=true):l=[(o,.int k n)]:=by
 unfold ZX at h
 split at h
 ·rename_i heq;cases heq
 ·rename_i heq
  cases heq
  simp only[Bool.and_eq_true,decide_eq_true_eq] at h
  rw[Nat.eq_of_beq_eq_true h.1,h.2.1,h.2.2]
 cases h
def DE(P:Program)(ty:TypeId)(c:Ky)(m:Bool)(wr:Option (Nat×IntKind×Int))(ks:List (Nat×Nat))(fr:Frame)(iB:List Frame)(k:Frame→List Frame→Bl):Bl:=
 match apr P ty c fr iB with
 |some (nP,gz,ws,ks',b1,b2)=>bif ZX ws wr&&(Ut ks' ks&&(!m||b1.isEmpty)) then ahH b1 (ahH b2 (k nP gz)) else none
 |none=>none
section
variable {P:Program} {ty:TypeId} {W:Nat}
theorem aje{c:Ky}{gz:List Frame}{ws:List (Nat×Value)}{ks:List (Nat×Nat)}{b1 b2:List Nat}(h:apr P ty c fr iB=some (nP,gz,ws,ks,b1,b2))(h1:∀b∈b1,b=W)(h2:∀b∈b2,b=W)
 {w:World}(hc:(c=jq∧b1=[])∨mf ty W w c)(cs:List Frame)(main:Bool):stepG P main (G fr (iB++cs)) w= .go (G nP (gz++cs)) (Lg W w ws) (ks.map (Ui W)).toArray:=by
 unfold apr at h
 split at h<;>try (cases h;done)
 rename_i h0
 split at h<;>try (cases h;done)
 rename_i hk
 simp only[Option.some.injEq,Prod.mk.injEq] at h
 obtain⟨rfl,rfl,rfl,rfl,rfl,rfl⟩:=h
 have:=qZ h0 h1 hc cs main
 simp only[OV.is] at this
 rw[this,Km hk h2]
def wrote(W:Nat)(w:World):Option (Nat×IntKind×Int)→World
 |none=>w
 |some (o,k,n)=>w.setCell ⟨W,o,none⟩ (.int k n)
theorem ia{c:Ky}{m:Bool}{x:Option (Nat×IntKind×Int)}{ks:List (Nat×Nat)}{k:Frame→List Frame→Bl}{bs:List Nat}(h:DE P ty c m x ks fr iB k=some bs)(hb:∀b∈bs,b=W):
 ∃nP gz wG,k nP gz=some wG∧(∀b∈wG,b=W)∧∀cs main w,((c=jq∧m=true)∨mf ty W w c)→stepG P main (G fr (iB++cs)) w= .go (G nP (gz++cs)) (wrote W w x) (ks.map (Ui W)).toArray:=by
 unfold DE at h
 split at h<;>try (cases h;done)
 rename_i nP gz ws ks' b1 b2 hv
 cases hq:(ZX ws x&&(Ut ks' ks&&(!m||b1.isEmpty))) with
 |false=>rw[hq] at h;cases h
 |true=>
 rw[hq] at h;simp only[cond_true] at h
 simp only[Bool.and_eq_true] at hq
 obtain⟨q1,q2,q3⟩:=hq
 obtain⟨h1,y,hy,YS⟩:=M4 h hb
 obtain⟨h2,z,hz,D5⟩:=M4 hy YS
 refine⟨nP,gz,z,hz,D5,fun cs main w hc=>?_⟩
 have:=aje hv h1 h2 (w:=w) (by
  rcases hc with ⟨hc,hm⟩|hc
  ·subst hm
   simp at q3
   exact .inl ⟨hc,q3⟩
  exact .inr hc) cs main
 rw[this,Xp q2]
 cases x with
 |none=>rw[ZW q1];rfl
 |some x=>
  obtain⟨o,kd,n⟩:=x
  rw[ZV q1];rfl
theorem T1{k:Frame→List Frame→Bl}:∀ {n:Nat} {fr:Frame} {iB:List Frame} {bs:List Nat},Dl P ty n fr iB k=some bs→(∀b∈bs,b=W)→
 ∀(T:Frame→List Frame→Prop),(∀nP gz wG,k nP gz=some wG→(∀b∈wG,b=W)→T nP gz)→
 (∀fr iB nP gz,(∀cs main w,mf ty W w jq→stepG P main (G fr (iB++cs)) w= .go (G nP (gz++cs)) w #[])→T nP gz→T fr iB)→T fr iB
 |0,_,_,_,h,_,_,_,_=>by cases h
 |n+1,fr,iB,bs,h,hb,T,hk,hs=>by
  simp only[Dl] at h
  split at h
  ·rename_i nP gz b1 h0
   obtain⟨h1,y,hy,YS⟩:=M4 h hb
   refine hs fr iB nP gz (fun cs main w hc=>?_) (T1 hy YS T hk hs)
   have:=qZ h0 h1 (.inr hc) cs main
   simp only[OV.is] at this
   rw[this];rfl
  exact hk _ _ _ h hb
end
section
variable {ι:Type} (E:dO ι)
theorem F4{w:World}(h:E.live w):mf E.ty E.Wg w jq:=by
 obtain⟨st,sm,h⟩:=h
 exact⟨_,_,h,by simp,by simp⟩
theorem oS{w:World}(h:WgAt E.ty E.Wg w st sm):mf E.ty E.Wg w (some (i64 st),some (i32 sm)):=⟨_,_,h,by simp[i64],by simp[i32]⟩
theorem aqc{w:World}(h:WgAt E.ty E.Wg w st sm):mf E.ty E.Wg w (none,some (i32 sm)):=⟨_,_,h,by simp,by simp[i32]⟩
variable {E}
theorem fH{Stop:Goroutine→Prop}{k:Frame→List Frame→Bl}{bs:List Nat}(h:Dl E.P E.ty n fr iB k=some bs)(hb:∀b∈bs,b=E.Wg)
 (hk:∀nP gz wG,k nP gz=some wG→(∀b∈wG,b=E.Wg)→Stop (G nP (gz++cs))):E.pure main Stop (G fr (iB++cs)):=by
 refine T1 h hb (fun fr iB=>E.pure main Stop (G fr (iB++cs))) (fun nP gz wG h1 h2=>⟨0,hk _ _ _ h1 h2⟩) fun fr iB nP gz h1 ⟨m,hm⟩=>⟨m+1,rfl,_,fun w hw=>h1 cs main w (F4 E hw),hm⟩
theorem Mw{L:Nat→Option Obj}{pend d0:Nat}{os:List ι}{s:St}{k:Frame→List Frame→Bl}{bs:List Nat}(h:Dl E.P E.ty n fr iB k=some bs)(hb:∀b∈bs,b=E.Wg)
 (hk:∀nP gz wG,k nP gz=some wG→(∀b∈wG,b=E.Wg)→TC E L Q pend false os d0 (G nP (gz++cs)) s):TC E L Q pend false os d0 (G fr (iB++cs)) s:=
 T1 h hb (fun fr iB=>TC E L Q pend false os d0 (G fr (iB++cs)) s) hk fun fr iB nP gz h1 hT=>U4 rfl (fun w hw=>h1 cs true w (F4 E hw)) hT
def goR(P:Program)(ty:TypeId):Nat→Frame→List Frame→Bl
 |0,_,_=>none
 |n+1,fr,iB=>match ON P ty jq fr iB with
  |some (.go nP gz,[],[],[])=>goR P ty n nP gz
  |some (.ret (.tuple ⟨[]⟩),[],[],[])=>some []
  |_=>none
theorem TY{c:Frame}:∀ {n:Nat} {fr:Frame} {iB:List Frame} {bs:List Nat},goR P ty n fr iB=some bs→
 ∀(main:Bool) (T:Goroutine→Prop),T (G (c.finish (.tuple #[])) cs)→(∀g g',g.status= .running→g'.status= .running→(∀w,stepG P main g w= .go g' w #[])→T g'→T g)→T (G fr (iB++c::cs))
 |0,_,_,_,h,_,_,_,_=>by cases h
 |n+1,fr,iB,bs,h,main,T,hT,hs=>by
  simp only[goR] at h
  split at h
  ·rename_i nP gz h0
   refine hs _ _ rfl rfl (fun w=>?_) (TY h main T hT hs)
   have:=qZ (W:=0) (w:=w) h0 (by simp) (.inl ⟨rfl,rfl⟩) (c::cs) main
   simp only[OV.is] at this
   rw[this];rfl
  ·rename_i h0
   refine hs _ _ rfl rfl (fun w=>?_) hT
   have:=qZ (W:=0) (w:=w) h0 (by simp) (.inl ⟨rfl,rfl⟩) (c::cs) main
   simp only[OV.is] at this
   have h2:=this c cs rfl
   rw[h2];rfl
  cases h
def O3:List Event→Bool
 | []=>true
 |e::l=>e.mute&&O3 l
def goQ(P:Program)(ty:TypeId):Nat→Nat→Frame→List Frame→Bl
 |0,_,_,_=>none
 |n+1,d,fr,iB=>match ON P ty jq fr iB with
  |some (.go nP gz,[],es,[])=>bif O3 es then goQ P ty n (deafBehind d es.toArray) nP gz else none
  |some (.aqo,[],[],[])=>bif Nat.beq d 0 then some [] else none
  |_=>none
theorem O2:∀ {es:List Event},O3 es=true→∀e∈es,e.mute=true
 | [],_,e,he=>by cases he
 |x::l,h,e,he=>by
  simp only[O3,Bool.and_eq_true] at h
  rcases List.mem_cons.1 he with rfl|he
  ·exact h.1
  exact O2 h.2 e he
theorem TZ{c:Frame}{q:Nat}(hc:c.mode= .returning∨∃ch,c.mode= .panicking [⟨ch,false,true⟩])(hq:QuitsD P q 0 (G c cs)):∀ {n d:Nat} {fr:Frame} {iB:List Frame} {bs:List Nat},goQ P ty n d fr iB=some bs→
 ∃q,QuitsD P q d (G fr (iB++c::cs))
 |0,_,_,_,_,h=>by cases h
 |n+1,d,fr,iB,bs,h=>by
  simp only[goQ] at h
  split at h
  ·rename_i nP gz es h0
   cases hm:O3 es with
   |false=>rw[hm] at h;cases h
   |true=>
   rw[hm] at h;simp only[cond_true] at h
   obtain⟨q',EL⟩:=TZ hc hq h
   refine⟨q'+1,.inr ⟨rfl,_,es.toArray,fun e he=>O2 hm e (by simpa using he),fun w=>?_,EL⟩⟩
   have:=qZ (W:=0) (w:=w) h0 (by simp) (.inl ⟨rfl,rfl⟩) (c::cs) false
   simp only[OV.is] at this
   rw[this];rfl
  ·rename_i h0
   cases hd:Nat.beq d 0 with
   |false=>rw[hd] at h;cases h
   |true=>
   have:d=0:=Nat.eq_of_beq_eq_true hd
   subst this
   refine⟨q+1,.ctl rfl (fun w=>?_) hq⟩
   have:=qZ (W:=0) (w:=w) h0 (by simp) (.inl ⟨rfl,rfl⟩) (c::cs) false
   simp only[OV.is] at this
   have h2:=this c cs rfl hc
   rw[h2];rfl
  cases h
end
section
variable (P:Program) (ty:TypeId)
abbrev Xi(a b:Int):Ky:=(some (i64 a),some (i32 b))
abbrev ax9:List (Nat×Nat):=[(1,0),(7,1),(8,1),(2,0)]
def aht(f:Frame)(s:List Frame):Bl:=bif mayWake P (G f []) then DE P ty (Xi 0 0) false (some (1,.u32,1)) ax9 f s (goQ P ty 300 1) else none
def aoY(f:Frame)(s:List Frame):Bl:=DE P ty (Xi 1 0) false (some (0,.u64,0)) [(8,0)] f s fun f s=>Dl P ty 300 f s (aht P ty)
def aoZ(f:Frame)(s:List Frame):Bl:=DE P ty (Xi 1 0) false none [(7,0)] f s fun f s=>Dl P ty 300 f s (aoY P ty)
def Um(f:Frame)(s:List Frame)(v wt:Nat):Bl:=
 DE P ty (Xi (((v+1:Nat):Int)*KK+(wt:Int)) 0) false (some (0,.u64,(v:Int)*KK+(wt:Int))) [(7,0),(8,0)] f s fun f s=>bif Nat.beq v 0&&Nat.beq wt 1 then Dl P ty 300 f s (aoZ P ty) else goQ P ty 300 1 f s
def ao0(mx:Nat)(f:Frame)(s:List Frame):Bl:=ahM (fun v=>both (Um P ty f s v 0) (Um P ty f s v 1)) (List.range mx)
def aoX(mx:Nat)(f:Frame)(s:List Frame):Bl:=DE P ty jq true none [(1,0)] f s fun f s=>Dl P ty 300 f s (ao0 P ty mx)
def aoW(mx:Nat)(f:Frame)(s:List Frame):Bl:=DE P ty jq true none [(3,0)] f s fun f s=>Dl P ty 300 f s (aoX P ty mx)
def xp(mx:Nat)(f:Frame):Bl:=Dl P ty 300 f [] (aoW P ty mx)
def ao1(f:Frame)(s:List Frame):Bl:=DE P ty jq true none [(4,0)] f s (goR P ty 300)
def Xh(f:Frame)(s:List Frame):Bl:=DE P ty jq true none [(2,0)] f s fun f s=>Dl P ty 300 f s (ao1 P ty)
def aoT(f:Frame)(s:List Frame):Bl:=DE P ty (Xi 0 0) false none [(7,0)] f s fun f s=>Dl P ty 300 f s (Xh P ty)
def aF2(c:Ky)(f:Frame)(s:List Frame):Bl:=match ON P ty c f s with
 |some (.block,[],[],bs)=>some bs
 |_=>none
def aoU(f:Frame)(s:List Frame):Bl:=both (aF2 P ty (none,some (i32 0)) f s) (DE P ty (Xi 0 1) false (some (1,.u32,0)) ax9 f s fun f s=>Dl P ty 300 f s (aoT P ty))
def aoS(f:Frame)(s:List Frame):Bl:=DE P ty jq true none [(6,1)] f s fun f s=>Dl P ty 300 f s (aoU P ty)
def aoV(akl:Frame→List Frame→Bl)(vs:Nat)(f:Frame)(s:List Frame):Bl:=
 both (DE P ty (Xi ((vs:Int)*KK) 0) false (some (0,.u64,(vs:Int)*KK+1)) [(7,0),(8,0)] f s fun f s=>Dl P ty 300 f s (aoS P ty))
  (ahM (fun v:Nat=>DE P ty (Xi ((v:Int)*KK) 0) false none [(7,0)] f s fun f s=>Dl P ty 300 f s akl) (List.range vs))
def QJ:Nat→Frame→List Frame→Bl
 |0,f,s=>DE P ty (Xi 0 0) false none [(7,0)] f s fun f s=>Dl P ty 300 f s (Xh P ty)
 |b+1,f,s=>both (DE P ty (Xi 0 0) false none [(7,0)] f s fun f s=>Dl P ty 300 f s (Xh P ty))
  (ahM (fun v:Nat=>DE P ty (Xi (((v+1:Nat):Int)*KK) 0) false none [(7,0)] f s fun f s=>Dl P ty 300 f s (aoV P ty (QJ b) (v+1))) (List.range (b+1)))
def AT(mx:Nat)(f:Frame):Bl:=Dl P ty 300 f [] fun f s=>DE P ty jq true none [(1,0)] f s fun f s=>Dl P ty 300 f s (QJ P ty mx)
def Hf(v:Nat)(f:Frame):Bl:=
 Dl P ty 300 f [] fun f s=>DE P ty jq true none [(1,0)] f s fun f s=>Dl P ty 300 f s fun f s=>
  DE P ty (Xi ((v:Int)*KK) 0) false (some (0,.u64,((v+1:Nat):Int)*KK)) [(7,0),(8,0)] f s fun f s=>Dl P ty 300 f s fun f s=>
   bif Nat.beq v 0 then DE P ty jq false none [(5,1)] f s fun f s=>Dl P ty 300 f s fun f s=>DE P ty jq true none [(2,0)] f s (goR P ty 300)
   else DE P ty jq true none [(2,0)] f s (goR P ty 300)
end
section
variable {ι:Type} {E:dO ι}
section leave
variable {c:Frame} {cs:List Frame} (hc:c.mode= .returning∨∃ch,c.mode= .panicking [⟨ch,false,true⟩]) {q0:Nat} (hq:QuitsD E.P q0 0 (G c cs))
include hc hq
theorem ahs{bs:List Nat}(h:aht E.P E.ty f s=some bs)(hb:∀b∈bs,b=E.Wg):E.D4 (G f (s++c::cs)):=by
 unfold aht at h
 cases hm:mayWake E.P (G f []) with
 |false=>rw[hm] at h;cases h
 |true=>
 rw[hm] at h;simp only[cond_true] at h
 obtain⟨f',s',wG,h1,h2,h3⟩:=ia h hb
 exact⟨rfl,hm,_,fun w hw=>h3 _ _ w (.inr (oS E hw)),TZ hc hq h1⟩
theorem ahu{bs:List Nat}(h:aoY E.P E.ty f s=some bs)(hb:∀b∈bs,b=E.Wg):E.D3 (G f (s++c::cs)):=by
 obtain⟨f',s',wG,h1,h2,h3⟩:=ia h hb
 exact⟨rfl,_,fun w hw=>h3 _ _ w (.inr (oS E hw)),fH h1 h2 fun _ _ _ k1 k2=>ahs hc hq k1 k2⟩
theorem ahv{bs:List Nat}(h:aoZ E.P E.ty f s=some bs)(hb:∀b∈bs,b=E.Wg):E.D2 (G f (s++c::cs)):=by
 obtain⟨f',s',wG,h1,h2,h3⟩:=ia h hb
 exact⟨rfl,_,fun w hw=>h3 _ _ w (.inr (oS E hw)),fH h1 h2 fun _ _ _ k1 k2=>ahu hc hq k1 k2⟩
theorem ahw{bs:List Nat}(h:ao0 E.P E.ty E.max f s=some bs)(hb:∀b∈bs,b=E.Wg):E.D1 (G f (s++c::cs)):=by
 refine⟨rfl,fun v wt hwt hv=>?_⟩
 obtain⟨a,h1,h2⟩:=EW h hb v (List.mem_range.2 hv)
 have key:∃a,Um E.P E.ty f s v wt=some a∧∀b∈a,b=E.Wg:=by
  obtain⟨k1,k2⟩:=AY h1 h2
  match wt,hwt with
  |0,_=>exact k1
  |1,_=>exact k2
 obtain⟨a',k1,k2⟩:=key
 obtain⟨f',s',wG,j1,j2,j3⟩:=ia k1 k2
 refine⟨_,fun w hw=>j3 _ _ w (.inr (oS E hw)),fun hh=>?_,fun hh=>?_⟩
 ·obtain⟨rfl,rfl⟩:=hh
  exact fH j1 j2 fun _ _ _ k1 k2=>ahv hc hq k1 k2
 have:(Nat.beq v 0&&Nat.beq wt 1)=false:=by
  cases hx:(Nat.beq v 0&&Nat.beq wt 1) with
  |false=>rfl
  |true=>
   simp only[Bool.and_eq_true] at hx
   exact absurd ⟨Nat.eq_of_beq_eq_true hx.1,Nat.eq_of_beq_eq_true hx.2⟩ hh
 rw[this] at j1;simp only[cond_false] at j1
 exact TZ hc hq j1
theorem ahr{bs:List Nat}(h:aoX E.P E.ty E.max f s=some bs)(hb:∀b∈bs,b=E.Wg):E.K1 (G f (s++c::cs)):=by
 obtain⟨f',s',wG,h1,h2,h3⟩:=ia h hb
 exact⟨rfl,_,fun w=>h3 _ _ w (.inl ⟨rfl,rfl⟩),fH h1 h2 fun _ _ _ k1 k2=>ahw hc hq k1 k2⟩
theorem ahq{bs:List Nat}(h:aoW E.P E.ty E.max f s=some bs)(hb:∀b∈bs,b=E.Wg):E.R0 (G f (s++c::cs)):=by
 obtain⟨f',s',wG,h1,h2,h3⟩:=ia h hb
 exact⟨rfl,_,fun w=>h3 _ _ w (.inl ⟨rfl,rfl⟩),fH h1 h2 fun _ _ _ k1 k2=>ahr hc hq k1 k2⟩
theorem He{bs:List Nat}(h:xp E.P E.ty E.max f=some bs)(hb:∀b∈bs,b=E.Wg):E.pure false E.R0 (G f (c::cs)):=
 fH (iB:=[]) h hb fun _ _ _ k1 k2=>ahq hc hq k1 k2
end leave
section close
variable {c:Frame} {cs:List Frame} {st:St} (hT:eS E.P false E.IL (G (c.finish (.tuple #[])) cs) st)
include hT
theorem ahx{bs:List Nat}(h:ao1 E.P E.ty f s=some bs)(hb:∀b∈bs,b=E.Wg):E.Aq st (G f (s++c::cs)):=by
 obtain⟨f',s',wG,h1,h2,h3⟩:=ia h hb
 have key:=TY (c:=c) (cs:=cs) h1 false (fun g=>eS E.P false E.IL g st) hT fun g g' hg hg' bS hT'=>(dQ _ _ _).go hg hg' bS hT'
 obtain⟨tr,iz,hle,ht⟩:=key
 exact⟨rfl,_,fun w=>h3 _ _ w (.inl ⟨rfl,rfl⟩),tr,iz,hle,ht⟩
theorem Hd{bs:List Nat}(h:Xh E.P E.ty f s=some bs)(hb:∀b∈bs,b=E.Wg):E.Ke st (G f (s++c::cs)):=by
 obtain⟨f',s',wG,h1,h2,h3⟩:=ia h hb
 exact⟨rfl,_,fun w=>h3 _ _ w (.inl ⟨rfl,rfl⟩),fH h1 h2 fun _ _ _ k1 k2=>ahx hT k1 k2⟩
theorem ahn{bs:List Nat}(h:aoT E.P E.ty f s=some bs)(hb:∀b∈bs,b=E.Wg):E.W4 st (G f (s++c::cs)):=by
 obtain⟨f',s',wG,h1,h2,h3⟩:=ia h hb
 exact⟨rfl,_,fun w hw=>h3 _ _ w (.inr (oS E hw)),fH h1 h2 fun _ _ _ k1 k2=>Hd hT k1 k2⟩
theorem aho{bs:List Nat}(h:aoU E.P E.ty f s=some bs)(hb:∀b∈bs,b=E.Wg):E.W3 st (G f (s++c::cs)):=by
 obtain⟨⟨b1,k1,k2⟩,b2,k3,k4⟩:=AY h hb
 obtain⟨f',s',wG,h1,h2,h3⟩:=ia k3 k4
 refine⟨rfl,rfl,fun w n hw=>?_,_,fun w hw=>h3 _ _ w (.inr (oS E hw)),fH h1 h2 fun _ _ _ k1 k2=>ahn hT k1 k2⟩
 unfold aF2 at k1
 split at k1<;>try (cases k1;done)
 rename_i h0
 simp only[Option.some.injEq] at k1;subst k1
 have:=qZ h0 k2 (w:=w) (.inr (aqc E hw)) (c::cs) false
 simp only[OV.is] at this
 rw[this];rfl
theorem ahm{bs:List Nat}(h:aoS E.P E.ty f s=some bs)(hb:∀b∈bs,b=E.Wg):E.Wr st (G f (s++c::cs)):=by
 obtain⟨f',s',wG,h1,h2,h3⟩:=ia h hb
 exact⟨rfl,_,fun w=>h3 _ _ w (.inl ⟨rfl,rfl⟩),fH h1 h2 fun _ _ _ k1 k2=>aho hT k1 k2⟩
theorem ahp{akl:Frame→List Frame→Bl}{ahV:Goroutine→Prop}(hm:∀f s bs,akl f s=some bs→(∀b∈bs,b=E.Wg)→ahV (G f (s++c::cs))){vs:Nat}{bs:List Nat}(h:aoV E.P E.ty akl vs f s=some bs)(hb:∀b∈bs,b=E.Wg):
 E.W2 (E.pure false ahV) st vs (G f (s++c::cs)):=by
 obtain⟨⟨b1,k1,k2⟩,b2,k3,k4⟩:=AY h hb
 obtain⟨f',s',wG,h1,h2,h3⟩:=ia k1 k2
 refine⟨rfl,⟨_,fun w hw=>h3 _ _ w (.inr (oS E hw)),fH h1 h2 fun _ _ _ k1 k2=>ahm hT k1 k2⟩,fun v hv=>?_⟩
 obtain⟨a,j1,j2⟩:=EW k3 k4 v (List.mem_range.2 hv)
 obtain⟨f2,s2,bs2,i1,i2,i3⟩:=ia j1 j2
 exact⟨_,fun w hw=>i3 _ _ w (.inr (oS E hw)),fH i1 i2 fun _ _ _ k1 k2=>hm _ _ _ k1 k2⟩
theorem QI:∀ {b:Nat} {f:Frame} {s:List Frame} {bs:List Nat},QJ E.P E.ty b f s=some bs→(∀b∈bs,b=E.Wg)→E.W1 st b (G f (s++c::cs))
 |0,f,s,bs,h,hb=>by
  simp only[QJ] at h
  obtain⟨f',s',wG,h1,h2,h3⟩:=ia h hb
  exact⟨rfl,_,fun w hw=>h3 _ _ w (.inr (oS E hw)),fH h1 h2 fun _ _ _ k1 k2=>Hd hT k1 k2⟩
 |b+1,f,s,bs,h,hb=>by
  simp only[QJ] at h
  obtain⟨⟨b1,k1,k2⟩,b2,k3,k4⟩:=AY h hb
  obtain⟨f',s',wG,h1,h2,h3⟩:=ia k1 k2
  refine⟨rfl,⟨_,fun w hw=>h3 _ _ w (.inr (oS E hw)),fH h1 h2 fun _ _ _ k1 k2=>Hd hT k1 k2⟩,fun v hv1 hv2=>?_⟩
  obtain⟨u,rfl⟩:∃u,v=u+1:=⟨v-1,by omega⟩
  obtain⟨a,j1,j2⟩:=EW k3 k4 u (List.mem_range.2 (by omega))
  obtain⟨f2,s2,bs2,i1,i2,i3⟩:=ia j1 j2
  exact⟨_,fun w hw=>i3 _ _ w (.inr (oS E hw)),fH i1 i2 fun _ _ _ k1 k2=>ahp hT (ahV:=E.W1 st b) (fun _ _ _ m1 m2=>QI m1 m2) k1 k2⟩
theorem Hc{bs:List Nat}(h:AT E.P E.ty E.max f=some bs)(hb:∀b∈bs,b=E.Wg):E.closes st (G f (c::cs)):=
 fH (iB:=[]) h hb fun _ _ _ k1 k2=>by
  obtain⟨f',s',wG,h1,h2,h3⟩:=ia k1 k2
  exact⟨rfl,_,fun w=>h3 _ _ w (.inl ⟨rfl,rfl⟩),fH h1 h2 fun _ _ _ k1 k2=>QI hT k1 k2⟩
end close
theorem Kp{L:Nat→Option Obj}{os:List ι}{s:St}{c:Frame}{bs:List Nat}(h:Hf E.P E.ty os.length f=some bs)(hb:∀b∈bs,b=E.Wg)(It:os.length <E.max)
 (hT:TC E L Q 1 false os 0 (G (c.finish (.tuple #[])) cs) s):TC E L Q 0 false os 0 (G f (c::cs)) s:=by
 have qp:∀ {f:Frame} {iB:List Frame} {bs:List Nat},DE E.P E.ty jq true none [(2,0)] f iB (goR E.P E.ty 300)=some bs→(∀b∈bs,b=E.Wg)→TC E L Q 1 false os 1 (G f (iB++c::cs)) s:=by
  intro f iB bs h hb
  obtain⟨f',s',wG,h1,h2,h3⟩:=ia h hb
  refine ED (lU:=1) (d':=0) rfl rfl (fun w st sm hw hz _=>⟨w,h3 _ _ w (.inl ⟨rfl,rfl⟩),eJ.refl w,by obtain⟨rfl,rfl⟩:=hz rfl;exact hw⟩) (by intro e he;simp[Ui] at he;subst he;exact .inr (.inl rfl)) rfl id ?_
  exact TY (c:=c) (cs:=cs) h1 true (fun g=>TC E L Q 1 false os 0 g s) hT fun g g' hg hg' bS hT'=>U4 hg (fun w _=>bS w) hT'
 refine Mw (iB:=[]) h hb fun f1 s1 b1 k1 k2=>?_
 obtain⟨f',s',wG,h1,h2,h3⟩:=ia k1 k2
 refine ED (lU:=0) (d':=1) rfl rfl (fun w st sm hw hz _=>⟨w,h3 _ _ w (.inl ⟨rfl,rfl⟩),eJ.refl w,by obtain⟨rfl,rfl⟩:=hz rfl;exact hw⟩) (by intro e he;simp[Ui] at he;subst he;exact .inl rfl) rfl id ?_
 refine Mw h1 h2 fun f2 s2 b2 k1 k2=>?_
 obtain⟨f',s',wG,h1,h2,h3⟩:=ia k1 k2
 refine ED (lU:=1) (d':=1) rfl rfl (fun w st sm hw hz _=>⟨_,h3 _ _ w (.inr ?_),eJ.set w 0 _,?_⟩) (by
  intro e he;simp[Ui] at he
  rcases he with rfl|rfl<;>exact nY 0 _) rfl (fun _=>It) ?_
 ·obtain⟨rfl,rfl⟩:=hz rfl
  exact oS E hw
 ·obtain⟨rfl,rfl⟩:=hz rfl
  exact Go.ConcR.WgAt.setSt hw _
 refine Mw h1 h2 fun f3 s3 b3 k1 k2=>?_
 cases hz:Nat.beq os.length 0 with
 |false=>
  rw[hz] at k1;simp only[cond_false] at k1
  exact qp k1 k2
 |true=>
  rw[hz] at k1;simp only[cond_true] at k1
  obtain⟨f',s',wG,h1,h2,h3⟩:=ia k1 k2
  refine ajq rfl (fun w hw=>h3 _ _ w (.inr (F4 E hw)))<|Mw h1 h2 fun f4 s4 b4 k1 k2=>qp k1 k2
end
def CA(P:Program):Class:=fun main T=>Closed P main T
def abK:Code→Nat
 | .seq a b=>abK a+abK b+1
 |_=>0
def gN(l:List Code):List Code:=l.flatMap iR
section
variable {P:Program} {main:Bool} {T:Goroutine→St→Prop} {b:Frame} {k:List Item} {cs:List Frame} {a:Act} {s:St} {n LF:Nat} {D:List Deferred} {call:bZ} {ops:Array Oper}
 {ρ:aS} {ce e:Env} {m:Mem} {F:Nat×Obj→Prop} {R:Nat→Option Obj}
abbrev On(T:Goroutine→St→Prop)(b:Frame)(a:Act)(l:List Code)(k:List Item)(cs:List Frame)(s:St):Prop:=T (G (aJ b a (l.map .code++k)) cs) s
theorem nQ(hT:Closed P main T){c0:Code}:∀ {l:List Code},gN l=c0::rest→(∀l',gN l'=rest→T (G (aJ b a (.code c0::(l'.map .code++k))) cs) s)→On T b a l k cs s:=by
 intro l
 generalize hn:(l.map abK).sum=q
 induction q using Nat.strongRecOn generalizing l with
 |_ q ih=>
  intro hl h
  cases l with
  |nil=>cases hl
  |cons c l=>
   cases hc:c with
   |seq x y=>
    subst hc
    refine hT.go rfl rfl (g':=G (aJ b a ((x::y::l).map .code++k)) cs) (fun w=>by simp[G,stepG,stepG.exec,aJ])<|ih ((x::y::l).map abK).sum ?_ rfl ?_ h
    ·rw[←hn];simp[abK];omega
    rw[←hl];simp[gN,iR]
   |_=>
    subst hc
    simp only[gN,List.flatMap_cons,iR,List.singleton_append,List.cons.injEq] at hl
    obtain⟨rfl,hl⟩:=hl
    exact h l hl
theorem dG(hT:Closed P main T)(hl:gN l= .region id ops false::rest)(h:∀l',gN l'=rest→T (G (aJ b a (.inRegion ops (List.range ops.size)::(l'.map .code++k))) cs) s):On T b a l k cs s:=
 nQ hT hl fun l' yN=>hT.go rfl rfl (g':=G (aJ b a (.inRegion ops (List.range ops.size)::(l'.map .code++k))) cs) (fun w=>by simp[G,stepG,stepG.exec,aJ]) (h l' yN)
theorem Ae(hT:Closed P main T){c:Operand}{x y:Code}{t:Bool}(hl:gN l= .cond c x y::rest)(hc:a.eval c= .bool t)(h:∀l',gN l'=rest→T (G (aJ b a (.code (if t then x else y)::(l'.map .code++k))) cs) s):On T b a l k cs s:=
 nQ hT hl fun l' yN=>hT.go rfl rfl (g':=G (aJ b a (.code (if t then x else y)::(l'.map .code++k))) cs) (fun w=>by
  have he:=kN b a (.code (.cond c x y)::(l'.map .code++k))
  simp only[aJ] at he
  simp only[G,stepG,stepG.exec,aJ,he,hc]) (h l' yN)
theorem vI(hT:Closed P main T){c:Code}(hl:gN l= .block id c::rest)(h:∀l',gN l'=rest→On T b a [c] (.inBlock id::(l'.map .code++k)) cs s):On T b a l k cs s:=
 nQ hT hl fun l' yN=>hT.go rfl rfl (g':=G (aJ b a (.code c:: .inBlock id::(l'.map .code++k))) cs) (fun w=>by simp[G,stepG,stepG.exec,aJ]) (show T (G (aJ b a (.code c:: .inBlock id::(l'.map .code++k))) cs) s from h l' yN)
theorem Cu(hT:Closed P main T)(h:T (G (aJ b a k) cs) s):T (G (aJ b a (.inBlock id::k)) cs) s:=
 hT.go rfl rfl (g':=G (aJ b a k) cs) (fun w=>by simp[G,stepG,stepG.exec,aJ]) h
theorem Ls(hT:Closed P main T){c:Code}(hl:gN l= .loop c::rest)(h:∀l',gN l'=rest→On T b a [c] (.inLoop c::(l'.map .code++k)) cs s):On T b a l k cs s:=
 nQ hT hl fun l' yN=>hT.go rfl rfl (g':=G (aJ b a (.code c:: .inLoop c::(l'.map .code++k))) cs) (fun w=>by simp[G,stepG,stepG.exec,aJ]) (show T (G (aJ b a (.code c:: .inLoop c::(l'.map .code++k))) cs) s from h l' yN)
theorem y6(hT:Closed P main T){c:Code}(h:On T b a [c] (.inLoop c::k) cs s):T (G (aJ b a (.inLoop c::k)) cs) s:=
 hT.go rfl rfl (g':=G (aJ b a (.code c:: .inLoop c::k)) cs) (fun w=>by simp[G,stepG,stepG.exec,aJ]) h
theorem MJ(hT:Closed P main T)(h:T (G (aJ b a k) cs) s):T (G (aJ b a (.code .skip::k)) cs) s:=
 hT.go rfl rfl (g':=G (aJ b a k) cs) (fun w=>by simp[G,stepG,stepG.exec,aJ]) h
theorem MK(hT:Closed P main T){k':List Item}(hk:exitTo id k=some k')(h:T (G (aJ b a k') cs) s):T (G (aJ b a (.code (.exit id)::k)) cs) s:=
 hT.go rfl rfl (g':=G (aJ b a k') cs) (fun w=>by simp[G,stepG,stepG.exec,aJ,hk]) h
theorem iq(hT:Closed P main T)(h:T (G (aJ b a k) cs) s):T (G (aJ b a (.inRegion ops []::k)) cs) s:=
 hT.go rfl rfl (g':=G (aJ b a k) cs) (fun w=>by simp[G,stepG,stepG.exec,aJ]) h
theorem qA(id:Nat):∀(l:List Code) (k:List Item),exitTo id (l.map .code++k)=exitTo id k
 | [],k=>rfl
 |c::l,k=>by
  rw[List.map_cons,List.cons_append]
  exact qA id l k
theorem sG(hT:Closed P main T){rest:List Nat}{o:Oper}(ho:ops[i]?=some o) (hw:Region.wanted o (yielded ops a.tmps)=true) (hk:b.kind≠ .early) (hb:b.roundOf=none)
 (h:bN P (execOp a.eval o) s (fun nx s'=>∃v,nx= .value v∧T (G (aJ b (a.put o.dst v) (.inRegion ops rest::k)) cs) s') (fun _ _=>False)):T (G (aJ b a (.inRegion ops (i::rest)::k)) cs) s:=by
 have jH:(b.kind==CallKind.early)=false:=by simpa using hk
 have gL:∀w,stepG P main (G (aJ b a (.inRegion ops (i::rest)::k)) cs) w=stepG.apply P true (aJ b a (.inRegion ops (i::rest)::k)) cs none (execOp a.eval o) w:=by
  intro w
  have he:=kN b a (.inRegion ops (i::rest)::k)
  simp only[aJ] at he
  simp only[G,stepG,stepG.exec,aJ,ho,Option.map_some,Option.getD_some,hw,if_true,stepG.oper,Frame.oper?,he]
  rw[hb]
 refine hT.step _ _ rfl fun w pH=>?_
 obtain⟨r,es,hr,hl⟩:=gQ _ _ _ _ w #[] h pH
 rw[Array.empty_append] at hr
 have mQ:=gL w
 simp only[stepG.apply,if_true,hr] at mQ
 simp only[aJ,jH,Bool.false_eq_true,if_false] at mQ
 cases r with
 |ok nx w'=>
  obtain⟨s',ht,v,rfl,hv⟩:=hl
  simp only[GStep.after,Array.append_empty] at mQ
  have mv:=fQ b a ops i rest k v
  rw[ho] at mv
  simp only[Option.bind_some] at mv
  rw[←mv] at hv
  exact⟨_,_,_,s',mQ,rfl,ht.sub (iE P b.fn es),hv⟩
 |halt hh w'=>
  obtain⟨s',ht,hu⟩:=hl
  exact hu.elim
theorem dq(o:Oper)(f:Nat→Option Bool)(h:o.guard=none):Region.wanted o f=true:=by unfold Region.wanted;rw[h]
end
def St.freeze(s:St):St:=⟨fun b=>match s.rw.find? (fun x=>x.1==b) with
 |some x=>some x.2
 |none=>s.ro b,[]⟩
theorem oI{l:List (Nat×Obj)}{b:Nat}{x:Nat×Obj}(h:l.find? (fun x=>x.1==b)=some x):x∈l∧x.1=b:=
 ⟨List.mem_of_find?_eq_some h,by simpa using List.find?_some h⟩
theorem wo{l:List (Nat×Obj)}(hn:(l.map (·.1)).Nodup){b:Nat}(h:(b,o)∈l):l.find? (fun x=>x.1==b)=some (b,o):=by
 induction l with
 |nil=>cases h
 |cons y l ih=>
  rw[List.map_cons,List.nodup_cons] at hn
  rcases List.mem_cons.1 h with rfl|h'
  ·simp
  have:y.1≠b:=fun e=>hn.1 (e▸List.mem_map.2 ⟨_,h',rfl⟩)
  rw[List.find?_cons_of_neg (by simpa using this)]
  exact ih hn.2 h'
theorem St.Cn(s:St):s.freeze.le s:=by
 refine⟨s.rw,by simp[St.freeze],fun b o h=>?_⟩
 simp only[St.freeze] at h
 split at h
 ·rename_i x hx
  obtain⟨h1,h2⟩:=oI hx
  cases h
  subst h2
  exact .inr h1
 exact .inl h
theorem St.nO{s:St}{b:Nat}(h:s.ro b=some o)(ha:∀b o,(b,o)∈s.rw→s.ro b=none):s.freeze.ro b=some o:=by
 simp only[St.freeze]
 split
 ·rename_i x hx
  obtain⟨h1,h2⟩:=oI hx
  subst h2
  rw[ha x.1 x.2 h1] at h;cases h
 exact h
theorem St.sU{s:St}{b:Nat}(h:(b,o)∈s.rw)(hn:(s.rw.map (·.1)).Nodup):s.freeze.ro b=some o:=by
 simp only[St.freeze,wo hn h]
section
variable {P:Program} {ρ:aS} {m:Mem} {F:Nat×Obj→Prop} {R:Nat→Option Obj} {s:St}
theorem Closed.jK(hT:Closed P main T)(hs:g.status= .running)(h:(∃w,aQ s w)→T g s):T g s:=by
 by_cases ha:∃w,aQ s w
 ·exact h ha
 exact hT.step _ _ hs fun w hw=>absurd ⟨w,hw⟩ ha
end
section
variable {P:Program} {main:Bool} {T:Goroutine→St→Prop} {b:Frame} {k:List Item} {cs:List Frame} {a:Act} {s:St} {n LF:Nat} {D:List Deferred} {call:bZ} {ops:Array Oper}
 {ρ:aS} {ce e:Env} {m:Mem} {F:Nat×Obj→Prop} {R:Nat→Option Obj}
theorem OJ(hT:Closed P main T){rest:List Nat}{o:Oper}(ho:ops[i]?=some o) (hg:o.guard=none) (hk:b.kind≠ .early) (hb:b.roundOf=none) {f:FuncId} (ay:o.op= .call ⟨.value (.func f),xs,ats⟩) (hf:FF P f)
 (h:T (G (Frame.enter P f (xs.map a.eval) .normal) (aJ b a (.inRegion ops (i::rest)::k)::cs)) s):T (G (aJ b a (.inRegion ops (i::rest)::k)) cs) s:=by
 have jH:(b.kind==CallKind.early)=false:=by simpa using hk
 have hw:Region.wanted o (yielded ops a.tmps)=true:=dq o _ hg
 have vX:bN P (execOp a.eval o) s (fun nx s'=>nx= .enter f (xs.map a.eval)∧s'=s) (fun _ _=>False):=by
  have e1:a.eval (.func f)= .func (.func f) #[] #[]:=rfl
  simp only[execOp,ay,resolve,e1,Deferred.ofValue,aa,ae,invoke]
  have:(#[]++xs.map a.eval:Array Value)++ #[]=xs.map a.eval:=by simp
  rw[this]
  exact j6 hf ⟨rfl,rfl⟩
 have gL:∀w,stepG P main (G (aJ b a (.inRegion ops (i::rest)::k)) cs) w=stepG.apply P true (aJ b a (.inRegion ops (i::rest)::k)) cs none (execOp a.eval o) w:=by
  intro w
  have he:=kN b a (.inRegion ops (i::rest)::k)
  simp only[aJ] at he
  simp only[G,stepG,stepG.exec,aJ,ho,Option.map_some,Option.getD_some,hw,if_true,stepG.oper,Frame.oper?,he]
  rw[hb]
 refine hT.step _ _ rfl fun w pH=>?_
 obtain⟨r,es,hr,hl⟩:=gQ _ _ _ _ w #[] vX pH
 rw[Array.empty_append] at hr
 have mQ:=gL w
 simp only[stepG.apply,if_true,hr] at mQ
 simp only[aJ,jH,Bool.false_eq_true,if_false] at mQ
 cases r with
 |ok nx w'=>
  obtain⟨s',ht,rfl,rfl⟩:=hl
  simp only[GStep.after,Array.append_empty] at mQ
  exact⟨_,_,_,_,mQ,rfl,ht.sub (iE P b.fn es),h⟩
 |halt hh w'=>
  obtain⟨s',ht,hu⟩:=hl
  exact hu.elim
def cI(P:Program):Frame:={(default:Frame) with fn:=P.funcs.size,defers:=[],mode:= .panicking [goexitEntry]}
theorem Oy(P:Program):QuitsD P 1 0 (G (cI P) []):=by
 have hc:(cI P).catches P=false:=by
  simp[Frame.catches,cI]
  rfl
 refine .ctl (g':={(G (cI P) []) with status:= .finished}) rfl (fun w=>?_) ⟨rfl,rfl⟩
 have bS:stepG P false (G (cI P) []) w=unwind P false (cI P) [] none w:=rfl
 rw[bS]
 unfold unwind
 have h1:(cI P).defers=[]:=rfl
 have h2:(cI P).mode= .panicking [goexitEntry]:=rfl
 simp only[h1,h2,hc,Bool.false_eq_true,if_false]
 simp[goexitEntry,G]
theorem n5{fn:Func}(hm:fr.mode= .returning)(hd:fr.defers=[])(hk:fr.kind= .deferred)(hf:P.funcs[fr.fn]?=some fn) (hr:fn.results= #[]):QuitsD P 2 0 (G fr [cI P]):=by
 refine .ctl rfl (fun w=>?_) (Oy P)
 have h1:∀tm,results fn tm=Sem.pure (.tuple #[]):=by intro tm;simp[results,hr];rfl
 rcases fr with ⟨fn',tmps,todo,defers,mode,kind,ro⟩
 simp only at hm hd hk hf
 subst hm hd hk
 simp only[G,stepG,unwind,hf,h1,Sem.runT,seen_none,GStep.after,doReturn,cI,goexitEntry,Array.append_empty]
end
structure QX where
 f:FuncId
 n:Nat
 cl:List Code
 o7:Array Oper
 o:Oper
 sc:Operand
 sv:Operand
 done:FuncId
def goE(P:Program)(ty:TypeId):Nat→Frame→List Frame→Option (Frame×List Frame)
 |0,fr,iB=>some (fr,iB)
 |n+1,fr,iB=>match ON P ty jq fr iB with
  |some (.go nP gz,[],[],[])=>goE P ty n nP gz
  |_=>none
theorem T3{T:Goroutine→Prop}(hs:∀g g',g.status= .running→g'.status= .running→(∀w,stepG P main g w= .go g' w #[])→T g'→T g):∀ {n:Nat} {fr nP:Frame} {iB gz:List Frame},goE P ty n fr iB=some (nP,gz)→T (G nP (gz++cs))→T (G fr (iB++cs))
 |0,fr,nP,iB,gz,h,hT=>by simp only[goE,Option.some.injEq,Prod.mk.injEq] at h;obtain⟨rfl,rfl⟩:=h;exact hT
 |n+1,fr,nP,iB,gz,h,hT=>by
  simp only[goE] at h
  split at h<;>try (cases h;done)
  rename_i f1 s1 h0
  refine hs _ _ rfl rfl (fun w=>?_) (T3 hs h hT)
  have:=qZ (W:=0) (w:=w) h0 (by simp) (.inl ⟨rfl,rfl⟩) cs main
  simp only[OV.is] at this
  rw[this];rfl
theorem Hn{f:FuncId}(hf:FF P f)(ca:Array Value)(w:World):stepG P main (born P {target:= .fn (.func f) ca,args:= #[]}) w= .go (G (Frame.enter P f (#[]++ca) .deferred) [cI P]) w #[]:=by
 obtain⟨fn,h1,h2,h3⟩:=hf.ff
 have bU:(callFunc f (#[]++ca)).runT P w #[]=(.ok (.enter f (#[]++ca)) w,#[]):=by
  show (Sem.program _).runT P w #[]=_
  simp only[Sem.runT,Sem.bind,h1,h2,h3,Bool.false_eq_true,if_false]
  rfl
 simp only[born,stepG,unwind,callDeferred,invoke,bU,GStep.after,seen_none,Bool.false_and,Bool.false_eq_true,if_false,Array.append_empty,G,cI]
structure Kx where
 f:FuncId
 n:Nat
 b:Frame
 q0:Array Oper
 o0:Oper
 rest:Code
 q1:Array Oper
 oc:Oper
 cx:Operand
 wait:FuncId
structure Kx.OK(P:Program)(ty:TypeId)(x:Kx):Prop where
 ff:Bq P x.f=true
 fn:∃fn,P.funcs[x.f]?=some fn∧fn.results= #[]∧fn.norace=false
 bf:x.b.fn=x.f∧x.b.kind= .deferred∧x.b.roundOf=none
 enter:∀p1 p2:Value,goE P ty 3 (Frame.enter P x.f #[p1,p2] .deferred) []=some (Frame.enter P x.wait #[p1] .normal,[aJ x.b (A x.n (fU 0 [p1,p2]) []) [.inRegion x.q0 [0],.code x.rest]])
 op0:x.q0[0]?=some x.o0
 rest:∃id,gN [x.rest]=[.region id x.q1 false]
 size:x.q1.size=2
 op:x.q1[1]?=some x.oc∧x.oc.guard=none∧∃ats,x.oc.op= .call {callee:= .builtin .close,args:= #[x.cx],argTypes:=ats}
theorem gB(h:gN l=[]):l=[]:=by
 cases l with
 |nil=>rfl
 |cons y l=>
  exfalso
  have:∀c:Code,iR c≠[]:=by
   intro c
   induction c with
   |seq p q ihp ihq=>simp[iR,ihp]
   |_=>simp[iR]
  simp only[gN,List.flatMap_cons,List.append_eq_nil_iff] at h
  exact this y h.1
theorem Cs{b:Frame}(h:b.roundOf=none)(a:Act)(todo:List Item):aJ b a todo=b.at a todo:=by simp[aJ,Frame.at,h]
def SI(P:Program):Sem Next→Nat→Option (Obj×Value)
 | .new o k,b=>match bn P (k b) with
  |some (.value v)=>some (o,v)
  |_=>none
 | .program k,b=>SI P (k P) b
 |_,_=>none
theorem FT{f:Nat→Value}{s:St}{K:Next→St→Prop}{E:Halt→St→Prop}(hK:∀b,¬s.knows b→K (.value (f b)) ⟨s.ro,(b,o)::s.rw⟩):∀(x:Sem Next),(∀b,SI P x b=some (o,f b))→bN P x s K E:=by
 intro x
 induction x with
 |new o' k ih=>
  intro h b hb
  have h':=h b
  simp only[SI] at h'
  split at h'<;>try (cases h';done)
  rename_i v hv
  simp only[Option.some.injEq,Prod.mk.injEq] at h'
  obtain⟨rfl,rfl⟩:=h'
  exact ov hv (hK b hb)
 |program k ih=>intro h;exact ih P h
 |_=>intro h;have:=h 0;simp[SI] at this
structure rF where
 f:FuncId
 n:Nat
 fn:Func
 o0:Array Oper
 o1:Array Oper
 o2:Array Oper
 o3:Array Oper
 o4:Array Oper
 o5:Array Oper
 o6:Array Oper
 o7:Array Oper
 o8:Array Oper
 o9:Array Oper
 o10:Array Oper
 o11:Array Oper
 BV:Array Oper
 o13:Array Oper
 o14:Array Oper
 a1:Oper
 a2:Oper
 a6:Oper
 a7:Oper
 a9:Oper
 QW:Oper
 lb:Code
 Dd:Code
 rb:Code
 ux:Code
 c4:Operand
 c12:Operand
 b0:Nat
 b1:Nat
 b2:Nat
 b3:Nat
 fin:List Code
 add:FuncId
 amL:Operand
 sp:Operand
 sk:Operand
 rc:Operand
 wk:QX
 cl:Kx
 ty:TypeId
 mx:Nat
def cK(l:List Code)(i:Nat):Array Oper:=match l[i]? with
 |some (.region _ ops _)=>ops
 |_=> #[]
def eI(o:Array Oper)(i:Nat):Oper:=(o[i]?).getD default
def adf(l:List Code)(i:Nat):Nat×Code:=match l[i]? with
 |some (.block id (.loop c))=>(id,c)
 |_=>(0,.skip)
def Xm(l:List Code)(i:Nat):Nat×Code:=match l[i]? with
 |some (.block id c)=>(id,c)
 |_=>(0,.skip)
def ahf(l:List Code)(i:Nat):Operand:=match l[i]? with
 |some (.cond c _ _)=>c
 |_=> .func 0
def Hl(o:Oper):FuncId:=match o.op with
 | .call ⟨.value (.func f),_,_⟩=>f
 | .defer ⟨.value (.func f),_,_⟩=>f
 |_=>0
def ao5(o:Oper)(i:Nat):Operand:=match o.op with
 | .call ⟨_,xs,_⟩=>(xs[i]?).getD (.func 0)
 |_=> .func 0
def aFi(o:Oper):Operand:=match o.op with
 | .go ⟨.value x,_,_⟩=>x
 |_=> .func 0
def aoK(o:Oper):FuncId:=match o.op with
 | .makeFunc (.func f) _ _=>f
 |_=>0
def chanOf(o:Oper):Operand:=match o.op with
 | .recv _ c _=>c
 | .send c _=>c
 |_=> .func 0
def aqd(o:Oper):Operand:=match o.op with
 | .send _ x=>x
 |_=> .func 0
def typeOf(o:Oper):TypeId:=match o.op with
 | .alloc t=>t
 |_=>0
def codeOf(P:Program)(f:FuncId):List Code:=match P.funcs[f]? with
 |some fn=>match fn.body with
  |some c=>iR c
  |none=>[]
 |none=>[]
def tmpsOf(P:Program)(f:FuncId):Nat:=match P.funcs[f]? with
 |some fn=>fn.ntmps
 |none=>0
def aqp(P:Program)(f:FuncId):Code:=match P.funcs[f]? with
 |some fn=>match fn.body with
  |some (.seq _ c)=>c
  |_=> .skip
 |none=> .skip
def auW(P:Program)(f:FuncId)(mx:Nat):rF:=
 let l:=codeOf P f
 let lb:=adf l 4
 let ll:=iR lb.2
 let bb:=Xm ll 2
 let bl:=iR bb.2
 let rb:=adf l 8
 let rl:=iR rb.2
 let rbb:=Xm rl 2
 let rbl:=iR rbb.2
 let wf:=aoK (eI (cK bl 2) 0)
 let wl:=codeOf P wf
 let cf:=aoK (eI (cK l 5) 0)
 let cl:=codeOf P cf
 {f,n:=tmpsOf P f,fn:=(P.funcs[f]?).getD default,o0:=cK l 0,o1:=cK l 1,o2:=cK l 2,o3:=cK l 3,o4:=cK ll 0,o5:=cK bl 0,o6:=cK bl 1,o7:=cK bl 2,o8:=cK ll 3,
  o9:=cK l 5,o10:=cK l 6,o11:=cK l 7,BV:=cK rl 0,o13:=cK rbl 0,o14:=cK rbl 1,
  a1:=eI (cK l 1) 0,a2:=eI (cK l 2) 0,a6:=eI (cK bl 1) 0,a7:=eI (cK bl 2) 1,a9:=eI (cK l 5) 1,QW:=eI (cK rl 0) 0,
  lb:=lb.2,Dd:=bb.2,rb:=rb.2,ux:=rbb.2,c4:=ahf ll 1,c12:=ahf rl 1,b0:=lb.1,b1:=bb.1,b2:=rb.1,b3:=rbb.1,fin:=(l.drop 9).dropLast,
  add:=Hl (eI (cK bl 1) 0),amL:=ao5 (eI (cK bl 1) 0) 0,sp:=aFi (eI (cK bl 2) 1),sk:=aFi (eI (cK l 5) 1),rc:=chanOf (eI (cK rl 0) 0),
  wk:={f:=wf,n:=tmpsOf P wf,cl:=wl.dropLast,o7:=cK wl (wl.length-1),o:=eI (cK wl (wl.length-1)) 2,sc:=chanOf (eI (cK wl (wl.length-1)) 2),sv:=aqd (eI (cK wl (wl.length-1)) 2),done:=Hl (eI (cK wl 0) 0)},
  cl:={f:=cf,n:=tmpsOf P cf,b:={(default:Frame) with fn:=cf,kind:= .deferred,roundOf:=none},q0:=cK cl 0,o0:=eI (cK cl 0) 0,rest:=aqp P cf,q1:=cK cl 1,oc:=eI (cK cl 1) 1,cx:=ao5 (eI (cK cl 1) 1) 0,wait:=Hl (eI (cK cl 0) 0)},
  ty:=typeOf (eI (cK l 2) 0),mx}
theorem wV{k:Nat}:∀b∈List.replicate k W,b=W:=fun b hb=>(List.mem_replicate.1 hb).2
section
variable {gV:Os} {cu:Array (Nat×ByteArray)} {P:Program} {T:Goroutine→St→Prop} {b:Frame} {k:List Item} {cs:List Frame} {a:Act} {s:St} {n LF:Nat} {call:bZ} {ops:Array Oper}
 {ρ:aS} {ce e:Env} {m:Mem} {x:rF} {Wg Ch:Nat} {L:Nat→Option Obj} {Q:Machine→Outcome→World→Trace→Prop}
theorem EV{rest:List Nat}{o:Oper}(ho:ops[i]?=some o) (hg:o.guard=none) (hk:b.kind≠ .early) (hb:b.roundOf=none) {y:Operand} (ay:o.op= .go ⟨.value y,#[],ats⟩) {f:FuncId} (hy:a.eval y= .func (.func f) #[] ca) (w:World):
 stepG P main (G (aJ b a (.inRegion ops (i::rest)::k)) cs) w= .spawn (G (aJ b (a.put o.dst undef) (.inRegion ops rest::k)) cs) (born P {target:= .fn (.func f) ca,args:= #[]}) w #[]:=by
 have hw:Region.wanted o (yielded ops a.tmps)=true:=dq o _ hg
 have hx:execOp a.eval o=Sem.pure (.spawn {target:= .fn (.func f) ca,args:= #[]}):=by
  simp only[execOp,ay,resolve,hy,Deferred.ofValue]
  show Sem.pure (Next.spawn {target:= .fn (.func f) ca,args:= #[]++Array.map a.eval #[]})=_
  simp
 rw[Cs hb,Cs hb]
 have:=stepG_spawn (P:=P) (main:=main) (b:=b) (a:=a) (k:=k) (cs:=cs) (w:=w) (w':=w) (d:={target:= .fn (.func f) ca,args:= #[]}) ho hw hk (rest:=rest) (by rw[hx];rfl) rfl
 rw[this,listed_none (by rw[hx];rfl)]
end
theorem tD:∀ {x:Sem α} {a:α},bn P x=some a→∀(w:World) (es:Array Event),x.runT P w es=(.ok a w,es)
 | .pure _,_,h,w,es=>by simp only[bn,Option.some.injEq] at h;subst h;rfl
 | .program k,_,h,w,es=>tD (x:=k _) h w es
def C0(P:Program):Class:=fun main T=>main=true∧∃gV cu Post,T=T0 P gV cu Post
theorem xq:∀main T,C0 P main T→Closed P main T:=by
 rintro _ _ ⟨rfl,gV,cu,Post,rfl⟩
 exact sw P gV cu Post
abbrev CP(P:Program):Class:=fun main T=>Closed P main T
theorem eY:∀main T,CP P main T→Closed P main T:=fun _ _ h=>h
abbrev Cells:=List (Nat×Obj)
variable {Φ:Value→Cells→Prop} {B X rw' rw:Cells}
def Sub(ro aI:Nat→Option Obj):Prop:=∀b o,ro b=some o→aI b=some o
theorem Sub.refl(ro:Nat→Option Obj):Sub ro ro:=fun _ _ h=>h
theorem Sub.trans{a b c:Nat→Option Obj}(h:Sub a b)(k:Sub b c):Sub a c:=fun x o hx=>k x o (h x o hx)
structure aak(fr B:Cells)(ro:Nat→Option Obj)(s1 s:St):Prop where
 rw:s.rw.Perm (s1.rw++fr)
 aB:∀b o,s1.ro b=some o→s.ro b=some o∨(b,o)∈B
 keep:Sub ro s.ro
theorem xo(hT:Closed P main T){s:St}(hg:g.status= .running)(h:(∃w,aQ s w)→T g s):T g s:=by
 by_cases hw:∃w,aQ s w
 ·exact h hw
 exact hT.step g s hg fun w pH=>absurd ⟨w,pH⟩ hw
theorem AD(hT:Closed P main T){fr:Cells}(hB:∀x∈B,x∈fr)(ro:Nat→Option Obj):
 Closed P main (fun g s1=>g.status= .running→∀s,aak fr B ro s1 s→T g s) where
 step:=fun g s1 hg h _ s hc=>by
  refine hT.step g s hg fun w hw=>?_
  have No:∀x,x∈s.rw↔x∈s1.rw∨x∈fr:=fun x=>by rw[hc.rw.mem_iff,List.mem_append]
  have lY:=(hc.rw.map (·.1)).nodup_iff.1 hw.nodup
  rw[List.map_append,List.nodup_append] at lY
  obtain⟨hn1,hn2,hn3⟩:=lY
  have aB7:∀b o o',(b,o)∈s1.rw→(b,o')∈fr→False:=fun b o o' h1 h2=>hn3 b (List.mem_map.2 ⟨_,h1,rfl⟩) b (List.mem_map.2 ⟨_,h2,rfl⟩) rfl
  have aSc:aQ s1 w:=by
   refine⟨fun b o hb=>?_,fun b o hb=>hw.rw b o ((No _).2 (.inl hb)),hn1,fun b o hb=>?_⟩
   ·rcases hc.aB b o hb with h1|h1
    ·exact hw.ro b o h1
    exact hw.rw b o ((No _).2 (.inr (hB _ h1)))
   cases hr:s1.ro b with
   |none=>rfl
   |some o'=>
    rcases hc.aB b o' hr with h1|h1
    ·rw[hw.apart b o ((No _).2 (.inl hb))] at h1;cases h1
    exact(aB7 b o o' hb (hB _ h1)).elim
  obtain⟨g',w',es,ym,bS,bU,ht,hT'⟩:=h w aSc
  have ae8:∀b o,(b,o)∈fr→b <w.heap.size:=fun b o hb=>hw.lt (.inr ((No _).2 (.inr hb)))
  have atn:∀b o,(b,o)∈fr→¬s1.iW b:=fun b o hb ⟨o',EM⟩=>aB7 b o' o EM hb
  have ass:∀b,s.ro b≠none→¬s1.iW b:=fun b hb ⟨o',EM⟩=>hb (hw.apart b o' ((No _).2 (.inl EM)))
  have aej:∀b,s.ro b≠none→b <w.heap.size:=fun b hb=>by
   cases hr:s.ro b with
   |none=>exact absurd hr hb
   |some o=>exact hw.lt (.inl hr)
  have aBU:∀b o,(b,o)∈fr→w'.heap[b]?=some o:=fun b o hb=>by
   rw[ht.frame b (ae8 b o hb) (atn b o hb)]
   exact hw.rw b o ((No _).2 (.inr hb))
  classical
  let aI:Nat→Option Obj:=fun b=>if ∃o,(b,o)∈fr then none else match ym.ro b with
   |some o=>some o
   |none=>s.ro b
  have ast:∀b o,aI b=some o→¬(∃o,(b,o)∈fr)∧(ym.ro b=some o∨(ym.ro b=none∧s.ro b=some o)):=fun b o hb=>by
   simp only[aI] at hb
   split at hb
   ·cases hb
   rename_i hn
   refine⟨hn,?_⟩
   cases h1:ym.ro b with
   |none=>rw[h1] at hb;exact .inr ⟨rfl,hb⟩
   |some o2=>rw[h1] at hb;exact .inl hb
  have aSb:aQ ⟨aI,ym.rw++fr⟩ w':=by
   refine⟨fun b o hb=>?_,fun b o hb=>?_,?_,fun b o hb=>?_⟩
   ·obtain⟨_,h1| ⟨_,h2⟩⟩:=ast b o hb
    ·exact ht.jK.ro b o h1
    have dR:s.ro b≠none:=by rw[h2];simp
    rw[ht.frame b (aej b dR) (ass b dR)]
    exact hw.ro b o h2
   ·rcases List.mem_append.1 hb with hb|hb
    ·exact ht.jK.rw b o hb
    exact aBU b o hb
   ·show ((ym.rw++fr).map (·.1)).Nodup
    rw[List.map_append,List.nodup_append]
    refine⟨ht.jK.nodup,hn2,fun x hx y hy e=>?_⟩
    obtain⟨⟨b,o⟩,h1,rfl⟩:=List.mem_map.1 hx
    obtain⟨⟨b2,o2⟩,h2,rfl⟩:=List.mem_map.1 hy
    dsimp only at e;subst e
    rcases ht.own b ⟨o,h1⟩ with h3|h3
    ·exact absurd (ae8 b o2 h2) (by omega)
    exact atn b o2 h2 h3
   show aI b=none
   rcases List.mem_append.1 hb with hb|hb
   ·cases hr:aI b with
    |none=>rfl
    |some o'=>
     obtain⟨hn,h1| ⟨_,h2⟩⟩:=ast b o' hr
     ·rw[ht.jK.apart b o hb] at h1;cases h1
     have dR:s.ro b≠none:=by rw[h2];simp
     rcases ht.own b ⟨o,hb⟩ with h3|h3
     ·exact absurd (aej b dR) (by omega)
     exact(ass b dR h3).elim
   simp only[aI]
   rw[if_pos ⟨o,hb⟩]
  have aCc:aak fr B ro ym ⟨aI,ym.rw++fr⟩:=by
   refine⟨.refl _,fun b o hb=>?_,fun b o hb=>?_⟩
   ·by_cases hf:∃o,(b,o)∈fr
    ·obtain⟨o2,HI⟩:=hf
     have e1:=ht.jK.ro b o hb
     rw[aBU b o2 HI] at e1
     cases e1
     rcases ht.KR b (by rw[hb];simp) with h1|h1|h1
     ·exact absurd (ae8 b _ HI) (by omega)
     ·cases hr:s1.ro b with
      |none=>exact absurd hr h1
      |some o3=>
       rcases hc.aB b o3 hr with h3|h3
       ·rw[hw.apart b _ ((No _).2 (.inr HI))] at h3;cases h3
       have e3:=hw.rw b o3 ((No _).2 (.inr (hB _ h3)))
       rw[hw.rw b _ ((No _).2 (.inr HI))] at e3
       cases e3
       exact .inr h3
     exact(atn b _ HI h1).elim
    left
    show aI b=some o
    simp only[aI]
    rw[if_neg hf,hb]
   have h1:=hc.keep b o hb
   have dR:s.ro b≠none:=by rw[h1];simp
   have hf:¬ ∃o,(b,o)∈fr:=fun⟨o2,HI⟩=>dR (hw.apart b o2 ((No _).2 (.inr HI)))
   show aI b=some o
   simp only[aI]
   rw[if_neg hf]
   cases h2:ym.ro b with
   |none=>exact h1
   |some o2=>
    have e1:=ht.jK.ro b o2 h2
    rw[ht.frame b (aej b dR) (ass b dR),hw.ro b o h1] at e1
    exact e1.symm
  refine⟨g',w',es,⟨aI,ym.rw++fr⟩,bS,bU,⟨aSb,ht.size,fun b hb hn=>?_,fun b hb=>?_,fun b hb=>?_,ht.os,ht.output,ht.tape,fun e he=>?_,ht.low⟩,hT' bU _ aCc⟩
  ·exact ht.frame b hb fun⟨o,ho⟩=>hn ⟨o,(No _).2 (.inl ho)⟩
  ·obtain⟨o,ho⟩:=hb
   rcases List.mem_append.1 ho with ho|ho
   ·rcases ht.own b ⟨o,ho⟩ with h3| ⟨o3,h3⟩
    ·exact .inl h3
    exact .inr ⟨o3,(No _).2 (.inl h3)⟩
   exact .inr ⟨o,(No _).2 (.inr ho)⟩
  ·have hb:aI b≠none:=hb
   cases hr:aI b with
   |none=>exact absurd hr hb
   |some o=>
    obtain⟨hn,h1| ⟨_,h2⟩⟩:=ast b o hr
    ·rcases ht.KR b (by rw[h1];simp) with h3|h3| ⟨o3,h3⟩
     ·exact .inl h3
     ·cases h4:s1.ro b with
      |none=>exact absurd h4 h3
      |some o4=>
       rcases hc.aB b o4 h4 with h5|h5
       ·exact .inr (.inl (by rw[h5];simp))
       exact absurd ⟨_,hB _ h5⟩ hn
     exact .inr (.inr ⟨o3,(No _).2 (.inl h3)⟩)
    exact .inr (.inl (by rw[h2];simp))
  have Rq:=ht.ve e he
  have aoj:∀b,(∃o,(b,o)∈s1.rw)→s.iW b:=fun b ⟨o,ho⟩=>⟨o,(No _).2 (.inl ho)⟩
  have aAP:∀b,s1.ro b≠none→s.ro b≠none∨s.iW b:=fun b hb=>by
   cases h4:s1.ro b with
   |none=>exact absurd h4 hb
   |some o4=>
    rcases hc.aB b o4 h4 with h5|h5
    ·exact .inl (by rw[h5];simp)
    exact .inr ⟨o4,(No _).2 (.inr (hB _ h5))⟩
  unfold HD at*
  split at Rq
  ·refine⟨Rq.1,?_⟩
   rcases Rq.2 with h1|h1| ⟨h1,h2⟩
   ·exact .inl h1
   ·exact .inr (.inl (aoj _ h1))
   rcases aAP _ h2 with h3|h3
   ·exact .inr (.inr ⟨h1,h3⟩)
   exact .inr (.inl h3)
  ·refine⟨Rq.1,?_⟩
   rcases Rq.2 with h1|h1| ⟨h1,h2⟩
   ·exact .inl h1
   ·exact .inr (.inl (aoj _ h1))
   rcases aAP _ h2 with h3|h3
   ·exact .inr (.inr ⟨h1,h3⟩)
   exact .inr (.inl h3)
  ·exact Rq
  exact Rq
 mono:=fun g s1 ym hl h bU s hc=>by
  refine xo hT bU fun⟨w,hw⟩=>?_
  obtain⟨R,hR,Ar⟩:=hl
  have No:∀x,x∈s.rw↔x∈ym.rw∨x∈fr:=fun x=>by rw[hc.rw.mem_iff,List.mem_append]
  have at3:∀x,x∈R→x∈s.rw:=fun x hx=>(No x).2 (.inl (hR.mem_iff.2 (List.mem_append_right _ hx)))
  classical
  let pz:Nat→Option Obj:=fun b=>if hx:∃o,(b,o)∈R then some (Classical.choose hx) else s.ro b
  have Gn:∀b o,(b,o)∈R→pz b=some o:=fun b o hb=>by
   have hx:∃o,(b,o)∈R:=⟨o,hb⟩
   simp only[pz]
   rw[dif_pos hx]
   have h1:=hw.rw b _ (at3 _ (Classical.choose_spec hx))
   rw[hw.rw b o (at3 _ hb)] at h1
   cases h1;rfl
  have iv:∀b o,s.ro b=some o→pz b=some o:=fun b o hb=>by
   simp only[pz]
   rw[dif_neg]
   ·exact hb
   rintro⟨o2,HI⟩
   rw[hw.apart b o2 (at3 _ HI)] at hb;cases hb
  refine hT.mono g ⟨pz,s1.rw++fr⟩ s ⟨R,?_,fun b o hb=>?_⟩ (h bU _ ⟨.refl _,fun b o hb=>?_,fun b o hb=>iv b o (hc.keep b o hb)⟩)
  ·refine hc.rw.trans ((List.Perm.append_right fr hR).trans ?_)
   rw[List.append_assoc,List.append_assoc]
   exact List.Perm.append_left _ List.perm_append_comm
  ·simp only[pz] at hb
   split at hb
   ·rename_i hx
    simp only[Option.some.injEq] at hb
    exact .inr (hb▸Classical.choose_spec hx)
   exact .inl hb
  rcases Ar b o hb with h1|h1
  ·exact(hc.aB b o h1).imp (iv b o) id
  exact .inl (Gn b o h1)
theorem Fn.frame{f:FuncId}{s1 s:St}{R:Ending→St→Prop}{fr:Cells}{ro:Nat→Option Obj}(hf:Fn (CP P) P f args s1 R)(hB:∀x∈B,x∈fr)(hc:aak fr B ro s1 s):
 Fn (CP P) P f args s (fun en s'=>∃ym,R en ym∧aak fr B ro ym s'):=
 fun main T hT c cs k1 k2=>hf main _ (AD hT hB ro) c cs (fun v ym hv _ s' sQ=>k1 v s' ⟨ym,hv,sQ⟩) (fun ch ym hv _ s' sQ=>k2 ch s' ⟨ym,hv,sQ⟩) rfl s hc
def eE(P:Program)(f:FuncId)(args:List Value)(ro:Nat→Option Obj)(own:Cells)(Φ:Value→Cells→Prop):Prop:=
 Fn (CP P) P f ⟨args⟩ ⟨ro,own⟩ (fun en s'=>∃v X,en= .returned v∧s'=⟨ro,X⟩∧Φ v X)
abbrev de(P:Program)(f:FuncId)(args:List Value)(ro:Nat→Option Obj)(V:Value):Prop:=eE P f args ro [] (fun v X=>v=V∧X=[])
theorem eE.mono{f:FuncId}{args:List Value}{ro:Nat→Option Obj}{own:Cells}{Φ':Value→Cells→Prop}(h:eE P f args ro own Φ)(hk:∀v X,Φ v X→Φ' v X):eE P f args ro own Φ':=
 Fn.mono h fun _ _ ⟨v,X,h1,h2,h3⟩=>⟨v,X,h1,h2,hk v X h3⟩
theorem MA{ro:Nat→Option Obj}:Ext ⟨ro,[]⟩ ⟨ro,rw⟩:=fun _ _ h=>h.elim .inl (fun h=>by cases h)
theorem ub{ro aI:Nat→Option Obj}(h:Sub ro aI):Ext ⟨ro,[]⟩ ⟨aI,[]⟩:=fun b o hb=>hb.elim (fun hb=> .inl (h b o hb)) (fun hb=>by cases hb)
def bE(ro:Nat→Option Obj)(v:Value)(sz:Nat)(enc:α→List Value)(ps:List α):Prop:=
 ∃a b o cap,v= .slice a ps.length cap∧ps.length≤cap∧(∀k,k <ps.length→a=some ⟨b,o,none⟩)∧∀i p,ps[i]?=some p→cy ⟨ro,[]⟩ b (o+i*sz) sz (enc p)
theorem bE.nil(ro:Nat→Option Obj)(sz:Nat)(enc:α→List Value)(a:Option Addr)(cap:Nat):bE ro (.slice a 0 cap) sz enc []:=⟨a,0,0,cap,rfl,Nat.zero_le _,fun k h=>absurd h (Nat.not_lt_zero k),fun i p hp=>by simp at hp⟩
theorem bE.up{ro aI:Nat→Option Obj}{v:Value}{enc:α→List Value}{ps:List α}(h:bE ro v sz enc ps)(hs:Sub ro aI):bE aI v sz enc ps:=by
 obtain⟨a,b,o,cap,h1,h4,h2,h3⟩:=h
 exact⟨a,b,o,cap,h1,h4,h2,fun i p hp=>(h3 i p hp).ext (ub hs)⟩
section rules
variable {P:Program} {C:Class} {fn:FuncId} {az:Option Nat} {Q:Post} {s:St} {n:Nat} {env:Env} {D:List Deferred}
variable {ops:Array Oper} {i:Nat} {rest:List Nat} {dst:Option Tmp} {ty:TypeId} {pos:String} {cZ:Array Edge} {g:Option (Nat×Bool)}
variable {T:TypeId} {d:TypeDesc} {sz bw:Nat} {z:List Value} {ag:Bool} {ro:Nat→Option Obj} {rw:Cells}
theorem ab.more{a:Act}(hC:∀main T,C main T→Closed P main T)(hl:s.le s')(h:ab C fn az ops todo Q a s):ab C fn az ops todo Q a s':=
 fun main T hT b k cs h1 h2 h3 h4=>(hC _ _ hT).mono _ _ _ hl (h main T hT b k cs h1 h2 h3 h4)
theorem aj3{a:Act}(hC:∀main T,C main T→Closed P main T)(h:(∃w,aQ s w)→ab C fn az ops todo Q a s):ab C fn az ops todo Q a s:=
 fun main T hT b k cs h1 h2 h3 h4=>xo (hC _ _ hT) rfl fun hw=>h hw main T hT b k cs h1 h2 h3 h4
theorem apl{a:Act}{c:Code}(hC:∀main T,C main T→Closed P main T)(h:(∃w,aQ s w)→Wp C fn az c Q a s):Wp C fn az c Q a s:=
 fun main T hT b k cs h1 h2 h3 h4=>xo (hC _ _ hT) rfl fun hw=>h hw main T hT b k cs h1 h2 h3 h4
theorem agz{f:FuncId}{R:Ending→St→Prop}(hC:∀main T,C main T→Closed P main T)(h:(∃w,aQ s w)→Fn C P f args s R):Fn C P f args s R:=
 fun main T hT c cs h1 h2=>xo (hC _ _ hT) rfl fun hw=>h hw main T hT c cs h1 h2
theorem WV(hp:rw.Perm (X++s.rw))(hw:∃w,aQ ⟨s.ro,rw⟩ w):∃aI,Sub s.ro aI∧(∀x∈X,aI x.1=some x.2)∧(⟨aI,s.rw⟩:St).le ⟨s.ro,rw⟩:=by
 classical
 obtain⟨w,hw⟩:=hw
 have zg:∀x,x∈X→x∈rw:=fun x hx=>hp.mem_iff.2 (List.mem_append_left _ hx)
 refine⟨fun b=>if hx:∃o,(b,o)∈X then some (Classical.choose hx) else s.ro b,fun b o hb=>?_,fun x hx=>?_,X,hp.trans List.perm_append_comm,fun b o hb=>?_⟩
 ·simp only
  rw[dif_neg]
  ·exact hb
  rintro⟨o2,HI⟩
  have:=hw.apart b o2 (zg _ HI)
  rw[show s.ro b=none from this] at hb;cases hb
 ·obtain⟨b,o⟩:=x
  have lK:∃o,(b,o)∈X:=⟨o,hx⟩
  simp only
  rw[dif_pos lK]
  have h1:=hw.rw b _ (zg _ (Classical.choose_spec lK))
  rw[hw.rw b o (zg _ hx)] at h1
  cases h1;rfl
 simp only at hb
 split at hb
 ·rename_i hx
  simp only[Option.some.injEq] at hb
  exact .inr (hb▸Classical.choose_spec hx)
 exact .inl hb
theorem XI{a:Act}{c:Code}(hC:∀main T,C main T→Closed P main T)(hp:rw'.Perm (X++rw))(h:∀aI,Sub ro aI→(∀x∈X,aI x.1=some x.2)→Wp C fn az c Q a ⟨aI,rw⟩):Wp C fn az c Q a ⟨ro,rw'⟩:=
 apl hC fun hw=>by
  obtain⟨aI,h1,h2,h3⟩:=WV (s:=⟨ro,rw⟩) hp hw
  exact(h aI h1 h2).more hC h3
theorem SD{a:Act}(hC:∀main T,C main T→Closed P main T)(hp:rw'.Perm (X++rw))(h:∀aI,Sub ro aI→(∀x∈X,aI x.1=some x.2)→ab C fn az ops todo Q a ⟨aI,rw⟩):ab C fn az ops todo Q a ⟨ro,rw'⟩:=
 aj3 hC fun hw=>by
  obtain⟨aI,h1,h2,h3⟩:=WV (s:=⟨ro,rw⟩) hp hw
  exact(h aI h1 h2).more hC h3
theorem eE.use{f:FuncId}{own fr:Cells}(hp:s.rw.Perm (own++fr))(hB:∀x∈B,x∈fr)(hf:∀aB,Sub s.ro aB→(∀x∈B,aB x.1=some x.2)→eE P f vs aB own Φ):
 Fn (CP P) P f ⟨vs⟩ s (fun en s'=>∃v X,en= .returned v∧Φ v X∧(⟨s.ro,X++fr⟩:St).le s'):=by
 refine agz eY fun⟨w,hw⟩=>?_
 classical
 have zg:∀x,x∈B→x∈s.rw:=fun x hx=>hp.mem_iff.2 (List.mem_append_right _ (hB x hx))
 let aB:Nat→Option Obj:=fun b=>if hx:∃o,(b,o)∈B then some (Classical.choose hx) else s.ro b
 have h1:Sub s.ro aB:=fun b o hb=>by
  simp only[aB]
  rw[dif_neg]
  ·exact hb
  rintro⟨o2,HI⟩
  rw[hw.apart b o2 (zg _ HI)] at hb;cases hb
 have h2:∀x∈B,aB x.1=some x.2:=fun⟨b,o⟩ hx=>by
  have lK:∃o,(b,o)∈B:=⟨o,hx⟩
  simp only[aB]
  rw[dif_pos lK]
  have h3:=hw.rw b _ (zg _ (Classical.choose_spec lK))
  rw[hw.rw b o (zg _ hx)] at h3
  cases h3;rfl
 refine Fn.mono (Fn.frame (fr:=fr) (B:=B) (ro:=s.ro) (s:=s) (hf aB h1 h2) hB ⟨hp,fun b o hb=>?_,Sub.refl _⟩) fun en s' Di=>?_
 ·simp only[aB] at hb
  split at hb
  ·rename_i hx
   simp only[Option.some.injEq] at hb
   exact .inr (hb▸Classical.choose_spec hx)
  exact .inl hb
 obtain⟨ym,⟨v,X,rfl,rfl,qi⟩,hc⟩:=Di
 exact⟨v,X,rfl,qi,[],by simpa using hc.rw,fun b o hb=> .inl (hc.keep b o hb)⟩
theorem acK(hC:∀main T,C main T→Closed P main T){f:FuncId}{own fr:Cells}(ho:ops[i]?=some ⟨dst,.call ⟨.value x,xs,at_⟩,ty,pos,cZ,g⟩) (hw:ax ops n env g=true)
 (hv:bh n env x=some (.func (.func f) fi ca)) (ff:FF P f) (hx:ve n env xs=some vs) (rR:fi++⟨vs⟩++ca=⟨ws⟩) (hp:s.rw.Perm (own++fr)) (hB:∀x∈B,x∈fr) (hf:∀aB,Sub s.ro aB→(∀x∈B,aB x.1=some x.2)→eE P f ws aB own Φ)
 (h:∀v X,Φ v X→ab C fn az ops rest Q (A n (upd dst v env) D) ⟨s.ro,X++fr⟩):ab C fn az ops (i::rest) Q (A n env D) s:=
 tR hC ho hw hv ff hx rR ((eE.use hp hB hf).weaken hC) (fun v' s' hr=>by obtain⟨v,X,e,h1,h2⟩:=hr;cases e;exact(h _ X h1).more hC h2) (fun ch s' hr=>by obtain⟨_,_,e,_⟩:=hr;cases e) (fun s' hr=>by obtain⟨_,_,e,_⟩:=hr;cases e)
theorem de.use{f:FuncId}{V:Value}{sz:St}(hez:Ext s sz)(hf:∀aB,(∀b o,s.has b o→aB b=some o)→de P f vs aB V):Fn (CP P) P f ⟨vs⟩ sz (fun e s'=>e= .returned V∧sz.le s'):=by
 refine agz eY fun⟨w,hw⟩=>?_
 refine Fn.mono (eE.use (s:=sz) (own:=[]) (fr:=sz.rw) (B:=sz.rw) (.refl _) (fun _ h=>h) (fun aB h1 h2=>hf aB fun b o hb=>?_)) fun en s' Di=>?_
 ·rcases hez b o hb with h3|h3
  ·exact h1 b o h3
  exact h2 _ h3
 obtain⟨v,X,e,⟨h1,h2⟩,h3⟩:=Di
 subst h1 h2
 exact⟨e,h3⟩
theorem OW(hC:∀main T,C main T→Closed P main T){f:FuncId}{V:Value}{s0:St}(ho:ops[i]?=some ⟨dst,.call ⟨.value x,xs,at_⟩,ty,pos,cZ,g⟩) (hw:ax ops n env g=true)
 (hv:bh n env x=some (.func (.func f) fi ca)) (ff:FF P f) (hx:ve n env xs=some vs) (rR:fi++⟨vs⟩++ca=⟨ws⟩) (hez:Ext s0 s) (hf:∀aB,(∀b o,s0.has b o→aB b=some o)→de P f ws aB V) (h:ab C fn az ops rest Q (A n (upd dst V env) D) s):ab C fn az ops (i::rest) Q (A n env D) s:=
 tR hC ho hw hv ff hx rR ((de.use hez hf).weaken hC) (fun v' s' hr=>by obtain⟨e,h1⟩:=hr;cases e;exact h.more hC h1) (fun ch s' hr=>by cases hr.1) (fun s' hr=>by cases hr.1)
theorem Ff{ro aB:Nat→Option Obj}(h:∀b o,(⟨ro,rw⟩:St).has b o→aB b=some o):Sub ro aB:=fun b o hb=>h b o (.inl hb)
theorem aA.lR{v:Value}{T:TypeId}{enc:α→List Value}{ps:List α}{L:Cells}{aB:Nat→Option Obj}(h:aA v sz T enc ps L)(hL:∀x∈L,aB x.1=some x.2):bE aB v sz enc ps:=by
 obtain⟨a,b,o,cap,h1,h2,h3⟩:=h.sl (s:=⟨aB,[]⟩) fun x hx=> .inl (hL x hx)
 refine⟨a,b,o,cap,h1,?_,h2,h3⟩
 rcases h with ⟨_,g2,_⟩| ⟨b',l,aUf,g1,_,_,g4,_⟩
 ·subst g2;exact Nat.zero_le _
 rw[g1] at h1;cases h1;exact g4
end rules
section rules
variable {P:Program} {C:Class} {fn:FuncId} {az:Option Nat} {Q:Post} {s:St} {n:Nat} {env:Env} {D:List Deferred}
variable {ops:Array Oper} {i:Nat} {rest:List Nat} {dst:Option Tmp} {ty:TypeId} {pos:String} {cZ:Array Edge} {g:Option (Nat×Bool)}
variable {T:TypeId} {d:TypeDesc} {sz bw:Nat} {z:List Value} {ag:Bool}
theorem SG(hC:∀main T,C main T→Closed P main T)(ho:ops[i]?=some ⟨dst,.range T x,ty,pos,cZ,g⟩) (hw:ax ops n env g=true) (tf:TF P T .string sz bw z ag) (hx:bh n env x=some (.string b))
 (h:∀r,¬s.knows r→ab C fn az ops rest Q (A n (upd dst (.pointer (some ⟨r,0,none⟩)) env) D) ⟨s.ro,(r,.stringIter b 0)::s.rw⟩):ab C fn az ops (i::rest) Q (A n env D) s:=by
 refine bR hC ho hw (by simp) ?_
 simp only[execOp,Instr.range,aa,aX tf,aD hx,ae,og]
 intro r hr
 have:=h r hr
 rw[←aV] at this
 exact this
theorem Yu(hC:∀main T,C main T→Closed P main T){r:Nat}{L R:Cells}(ho:ops[i]?=some ⟨dst,.next x true,ty,pos,cZ,g⟩) (hw:ax ops n env g=true) (hx:bh n env x=some (.pointer (some ⟨r,0,none⟩))) (hs:s.rw=L++(r,.stringIter b p)::R) (hp:p <b.size)
 (h:ab C fn az ops rest Q (A n (upd dst (.tuple ⟨[.bool true,.int .i64 p,.int .i32 (Utf8.decode b p).1]⟩) env) D) ⟨s.ro,L++(r,.stringIter b (p+(Utf8.decode b p).2))::R⟩):ab C fn az ops (i::rest) Q (A n env D) s:=by
 refine bR hC ho hw (by simp) ?_
 simp only[execOp,Instr.next,aa,aD hx]
 refine cA (o:= .stringIter b p) (.inr (by rw[hs];simp)) rfl rfl ?_
 simp only[aa,hp,if_true]
 refine eo (o:= .stringIter b (p+(Utf8.decode b p).2)) rfl hs rfl ?_
 rw[←aV] at h
 exact h
theorem Yv(hC:∀main T,C main T→Closed P main T){r:Nat}{L R:Cells}(ho:ops[i]?=some ⟨dst,.next x true,ty,pos,cZ,g⟩) (hw:ax ops n env g=true) (hx:bh n env x=some (.pointer (some ⟨r,0,none⟩))) (hs:s.rw=L++(r,.stringIter b p)::R) (hp:¬p <b.size)
 (h:ab C fn az ops rest Q (A n (upd dst (.tuple ⟨[.bool false]⟩) env) D) s):ab C fn az ops (i::rest) Q (A n env D) s:=by
 refine bR hC ho hw (by simp) ?_
 simp only[execOp,Instr.next,aa,aD hx]
 refine cA (o:= .stringIter b p) (.inr (by rw[hs];simp)) rfl rfl ?_
 simp only[aa,hp,if_false]
 rw[←aV] at h
 exact h
end rules
end Go.L
