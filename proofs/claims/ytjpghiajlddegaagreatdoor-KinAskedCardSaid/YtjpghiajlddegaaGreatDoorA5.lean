/- Part 5 of the proof: a program logic, contracts, a theorem on goroutines. -/
import Derived.Test.YtjpghiajlddegaaGreatDoorA4
import Derived.Conc.CrowdStepC
set_option maxRecDepth 100000
set_option linter.all false
namespace Go.L
open Go Go.Conc
open Go.ConcR (KK wgBlock WgAt stA smA rd wr)
variable {ty:TypeId} {P:Program} {z:Value} {W lT off pc:Nat} {s s':St} {b:Bool} {α:Type}
section
variable {ι:Type} {E:dS ι} {L:Nat→Option Obj} {K:Nat→St} {gs:Array Goroutine} {w:World} {t:Trace} {D:List (ar ι)} {d0:Nat} {main:Goroutine} {sl:Option (Nat×Nat)}
 {ic n:Nat} {g:Goroutine}
def Hl(E:dS ι)(pc:Nat)(K:Nat→St)(w:World)(t:Trace):Prop:=
 (∃sn tm,w.heap[E.Ch]?=some (.chan 0 #[] true sn sn tm))∧¬(K 0).knows E.Ch∧t.act? pc=some (.close E.Ch)∧t.heard pc∧(∀a,NoRelease a t)∧w.os=E.os∧w.output=E.out
theorem Gy(E:dS ι)(pc:Nat):WZ (Hl E pc) where
 grow:=fun K w t u h hu=>⟨h.1,h.2.1,by rw[act?_old (lt_of_act? h.2.2.1)];exact h.2.2.1,(heard_old (lt_of_act? h.2.2.1)).2 h.2.2.2.1,fun a=>(h.2.2.2.2.1 a).app fun op aB=>hu op aB a,h.2.2.2.2.2⟩
 drawn:=fun K w t d h=>h
 le:=fun K w t s h hl=>⟨h.1,by rw[aF];exact fun hk=>h.2.1 (hl.knows hk),h.2.2⟩
 own:=fun K w t s' w' es u h ht hu=>by
  obtain⟨⟨sn,tm,hc⟩,hk,ha,hh,hn,O9⟩:=h
  have cK:=lt_size hc
  refine⟨⟨sn,tm,by rw[ht.frame _ cK fun ho=>hk (.inr ho)];exact hc⟩,?_,by rw[act?_old (lt_of_act? ha)];exact ha,(heard_old (lt_of_act? ha)).2 hh,fun a=>(hn a).app fun op aB=>hu op aB a,ht.os.trans O9.1,ht.output.trans O9.2⟩
  rw[aF]
  rintro(h'|h')
  ·rcases ht.Kh _ h' with h1|h1|h1
   ·omega
   ·exact hk (.inl h1)
   ·exact hk (.inr h1)
  ·rcases ht.own _ h' with h1|h1
   ·omega
   ·exact hk (.inr h1)
theorem Xy{r:ar ι}(h1:r.cnt=0)(h4:r.c4=0)(h3:r.c3=0)(h2:r.c2=0)(hc:r≠ .closer):∃q d c,r= .leave q d c:=by
 cases r with
 |leave q d c=>exact⟨q,d,c,rfl⟩
 |closer=>exact absurd rfl hc
 |st k n=>cases k<;>simp[ar.cnt,ar.c4,ar.c3,ar.c2] at h1 h4 h3 h2
 |_=>exact absurd h1 (by simp[ar.cnt])
theorem AcqAll.known(hA:AcqAll E t D ic)(hn:NoRelease (stA E.Wg) t){u:Trace}(hpc:t.size≤pc){y:MemOp}(hy:(t++u)[pc]?=some y) (hyg:y.g=ic+1) {i:Nat} {r:ar ι} (hi:D[i]?=some r) (hc:r.cur=true)
 {p:Nat} (hp:t.g? p=some (i+1)) (hct:t.counts p):HappensBefore (t++u) p pc:=by
 obtain⟨q,h1,h2,h3,h4⟩:=hA
 obtain⟨x,hx,hxq⟩:=h4 i r hi hc
 have hq:=lt_of_act? h1
 have hqg:=h2
 obtain⟨oq,hoq,hgq⟩:=Option.map_eq_some_iff.1 h2
 have Y1:HappensBefore t x q:= .single (.inr ⟨.marked hxq (.inr hx.act) h1 (fun k _ _=>hn k),hx.heard,h3⟩)
 have last:HappensBefore (t++u) q pc:=hb_po (by omega) (by rw[getElem?_append_old hq];exact hoq) hy (hgq.trans hyg.symm)
 have hle:p≤x:=Nat.le_of_not_lt fun cK=>hx.after p cK hp hct
 rcases Nat.lt_or_ge p x with cK|Pv
 ·exact((hb_app u (.trans (.single (.inl ⟨cK,_,hp,hx.g⟩)) Y1)).trans last)
 ·obtain rfl:p=x:=by omega
  exact(hb_app u Y1).trans last
def ac0(qc:Nat):ar ι→Nat
 | .leave q _ _=>q
 |_=>qc
theorem Inv.close(h:Inv E L K gs w t D 0 (some (ic,.run .leaf,n)) main d0){main':Goroutine}(hm:∀(a a':Goroutine) (w':World),mayWake E.P a=true→(a'.status= .running∨a'.status= .finished)→(∃sn tm,w'.heap[E.Ch]?=some (.chan 0 #[] true sn sn tm))→woken E.P a a' w' main=main')
 (hg:gs[ic+1]?=some g):
 ∃kR w' u q,runT E.P (crowd gs w sl) (ic+1)=(.next (crowd kR w' sl),u)∧Lv E.P (iY (t.size+1)) L (fun j=>if j=0 then K 0 else ⟨fun _=>none,[]⟩) kR w' (t++u) q∧kR[0]?=some main'∧Deaf (t++u) 0=d0∧
  Hl E (t.size+1) (fun j=>if j=0 then K 0 else ⟨fun _=>none,[]⟩) w' (t++u)∧ko D=[]:=by
 obtain⟨hic,FR,yy,⟨gc,Eb,py⟩,Tc⟩:=h.sy.DF
 obtain rfl:gc=g:=by rw[hg] at Eb;exact(Option.some.inj Eb).symm
 obtain⟨st,sm,ha,mP⟩:=h.sy.cells
 obtain⟨e1,e4,e3,e2,rfl,rfl⟩:=mP.run rfl trivial
 obtain⟨_,hs,hmw,g',bS,q,hq⟩:=py
 obtain⟨sn,rc,tm,hc⟩:=h.sy.chan
 have atE:=h.sy.bal _ _ _ hc
 subst atE
 have hA:=Tc ⟨_,rfl⟩
 have cK:=(List.getElem?_eq_some_iff.1 hic).1
 have SP:∀k r,D[k]?=some r→k≠ic→∃q d c,r= .leave q d c:=fun k r hk eg=>by
  refine Xy ?_ ?_ ?_ ?_ fun e=>eg (FR k (e▸hk))
  ·have:=tD ar.cnt hk;omega
  ·have:=tD ar.c4 hk;omega
  ·have:=tD ar.c3 hk;omega
  ·have:=tD ar.c2 hk;omega
 have gB:=bS w sn sn tm hc
 have bV:=runT_crowd_go (P:=E.P) (sl:=sl) (i:=ic+1) hg (by simpa using gB)
 have q1:MemOp.ofEvents (ic+1) gc.frame.fn gc.frame.place #[⟨.obj E.Ch,false,true⟩,⟨.obj E.Ch,true,true⟩]= #[{g:=ic+1,fn:=gc.frame.fn,pos:=gc.frame.place,act:= .access ⟨.obj E.Ch,false,true⟩},{g:=ic+1,fn:=gc.frame.fn,pos:=gc.frame.place,act:= .close E.Ch}]:=by rw[ofEvents_eq];simp[MemAct.ofEvent]
 rw[q1] at bV
 generalize hu:(#[{g:=ic+1,fn:=gc.frame.fn,pos:=gc.frame.place,act:= .access ⟨.obj E.Ch,false,true⟩},{g:=ic+1,fn:=gc.frame.fn,pos:=gc.frame.place,act:= .close E.Ch}]:Trace)=u at bV
 have Jq:∀op∈u,op.g=ic+1∧(op.act= .access ⟨.obj E.Ch,false,true⟩∨op.act= .close E.Ch):=by rw[←hu];intro op aB;simp at aB;rcases aB with rfl|rfl<;>simp
 have VQ:∀op∈u,∀x,op.act.touch?=some x→x=⟨.obj E.Ch,false,.atomic⟩:=fun op aB x hx=>by
  rcases(Jq op aB).2 with e|e<;>rw[e] at hx
  ·simp only[MemAct.touch?,if_true,Option.some.injEq] at hx;exact hx.symm
  ·cases hx
 have Pq:∀op∈u,∀m,op.act≠ .mark m:=fun op aB m=>by rcases(Jq op aB).2 with e|e<;>rw[e]<;>simp
 have aEt:E.Ch <w.heap.size:=lt_size hc
 have sC:(w.heap.setIfInBounds E.Ch (.chan 0 #[] true sn sn tm))[E.Ch]?=some (.chan 0 #[] true sn sn tm):=by simp[aEt]
 have hpc:(t++u)[t.size+1]?=some {g:=ic+1,fn:=gc.frame.fn,pos:=gc.frame.place,act:= .close E.Ch}:=by rw[←hu];simp
 have hle:∀j,((fun j=>if j=0 then K 0 else ⟨fun _=>none,[]⟩) j:St).le (K j):=fun j=>by
  by_cases e:j=0
  ·subst e;exact St.le_refl _
  ·simp only[if_neg e];exact⟨(K j).rw,by simp,fun b o hb=>(by cases hb)⟩
 have aPS:∀x:Goroutine,(x.status= .running∨x.status= .finished)→woken E.P gc g' {w with heap:=w.heap.setIfInBounds E.Ch (.chan 0 #[] true sn sn tm)} x=x:=fun x hx=>by
  unfold Go.Conc.woken
  split
  ·exact again_running _ hx
  ·rfl
 have ky:∀i r,D[i]?=some r→i≠ic→iY (t.size+1) (t++u) (i+1):=fun i r hi eg=>by
  obtain⟨x,hx,fg⟩:=h.base.ok i r hi
  obtain⟨qq,d,c,rfl⟩:=SP i r hi eg
  refine⟨by rw[←hu];simp,?_⟩
  cases c with
  |false=>exact .inl ((fg.2.2.2.2 rfl).other fun op aB=>by rw[(Jq op aB).1];omega)
  |true=>
   refine .inr fun p hp hct=>?_
   obtain⟨op,ho,hgo⟩:=Option.map_eq_some_iff.1 hp
   rcases getElem?_append_cases ho with ⟨SR,_⟩| ⟨_,iS⟩
   ·exact hA.known (h.sy.norel _) (Nat.le_succ _) hpc rfl hi rfl (by rw[←g?_old (u:=u) SR];exact hp) ((counts_old SR).1 hct)
   ·rw[(Jq op iS).1] at hgo;omega
 refine⟨_,_,u,D.map (ac0 q),bV,⟨?_,by simp[h.base.size],fun k x hk=>?_,fun i b hi hk=>?_,fun op aB=>?_⟩,?_,?_,⟨⟨sn,tm,sC⟩,h.sy.kC 0,?_,?_,fun a=>(h.sy.norel a).app fun op aB=>Pq op aB _,h.base.same.1,h.base.same.2⟩,?_⟩
 ·refine(h.base.fit.beside E.Ch (ic+1) h.sy.kC h.sy.lC aEt (by simp) (fun b hb _=>by simp[Ne.symm hb]) (fun op aB=>(Jq op aB).1) fun op aB x hx=>?_).le hle
  obtain rfl:=VQ op aB x hx
  refine⟨rfl,fun sd p a uk hc=>h.sy.plain _ (.inr ⟨ic,_,rfl,hic,rfl⟩) p a uk (.inr (by rw[hc.1];rfl)) ?_⟩
  rcases hc.2.2.2 with h3|h3|h3
  ·exact h3
  ·cases h3
  ·cases h3.2.2
 ·rw[List.getElem?_map] at hk
  obtain⟨r,hr,rfl⟩:=Option.map_eq_some_iff.1 hk
  by_cases eg:k=ic
  ·subst eg
   rw[hic] at hr
   cases hr
   refine⟨g',0,by simp[h.base.size,cK],hq,by rw[fW _ _ _ Pq];exact yy,by rw[←hu];simp,.inr fun p hp hct=>?_⟩
   obtain⟨op,ho,hgo⟩:=Option.map_eq_some_iff.1 hp
   rcases Nat.lt_or_ge p (t.size+1) with SR|Pv
   ·exact hb_po SR ho hpc hgo
   ·have hpe:p=t.size+1:=by
     have:=lt_size ho
     rw[←hu] at this
     simp at this
     omega
    subst hpe
    obtain⟨y,hy,_⟩:=hct
    obtain⟨o',D9,lH⟩:=touch_of hy
    rw[hpc] at D9;cases D9
    cases lH
  ·obtain⟨x,hx,fg⟩:=h.base.ok k r hr
   have bW:=ky k r hr eg
   obtain⟨qq,d,c,rfl⟩:=SP k r hr eg
   exact⟨x,d,by rw[fY (by omega) hx,aPS x fg.2.1.status],fg.2.1,by rw[fW _ _ _ Pq];exact fg.2.2.1,bW⟩
 ·simp only[if_neg hi] at hk
  rcases hk with hk| ⟨o,ho⟩
  ·exact hk rfl
  ·cases ho
 ·rw[Array.size_setIfInBounds,Array.size_map]
  rcases Array.mem_append.1 aB with h'|h'
  ·exact h.base.ops op h'
  ·rw[(Jq op h').1,h.base.size];omega
 ·rw[fY (by omega) h.main,hm _ _ _ hmw hq.status ⟨sn,tm,sC⟩]
 ·rw[fW _ _ _ Pq];exact h.deaf
 ·rw[act?_of hpc]
 ·refine⟨ic+1,by simp[Trace.g?,hpc],?_⟩
  have e2:t++u=(t++ #[({g:=ic+1,fn:=gc.frame.fn,pos:=gc.frame.place,act:= .access ⟨.obj E.Ch,false,true⟩}:MemOp)])++ #[({g:=ic+1,fn:=gc.frame.fn,pos:=gc.frame.place,act:= .close E.Ch}:MemOp)]:=by rw[←hu,Array.append_assoc];rfl
  have e3:=fW t (ic+1) #[({g:=ic+1,fn:=gc.frame.fn,pos:=gc.frame.place,act:= .access ⟨.obj E.Ch,false,true⟩}:MemOp)] (by intro op aB m;simp only[List.mem_toArray,List.mem_singleton] at aB;subst aB;simp)
  rw[e2,deaf_old (by simp)]
  unfold Deaf at e3 yy
  rw[Array.size_append] at e3
  exact e3.trans yy
 ·unfold ko
  rw[List.filterMap_eq_nil_iff]
  intro r hr
  obtain⟨k,hk⟩:=List.getElem?_of_mem hr
  by_cases eg:k=ic
  ·subst eg;rw[hic] at hk;cases hk;rfl
  ·obtain⟨qq,d,c,rfl⟩:=SP k r hk eg;rfl
end
section
variable {ι:Type} {E:dS ι} {L:Nat→Option Obj} {K:Nat→St} {gs:Array Goroutine} {w w':World} {t u:Trace} {D:List (ar ι)} {pend d0:Nat} {cl:yX} {main:Goroutine} {sl:Option (Nat×Nat)}
 {i:Nat} {g g':Goroutine} {es:Array Event}
def PLt(mx:Nat):List (ar ι)×yX→List (ar ι)×yX→Prop:=Prod.Lex (One tU) (InvImage DK (m9 mx))
theorem PLt.wf(mx:Nat):WellFounded (PLt (ι:=ι) mx):=(Prod.lex ⟨_,One.wf tU.wf⟩ ⟨_,InvImage.wf (m9 mx) DK.wf⟩).wf
theorem Inv.other(h:Inv E L K gs w t D pend cl main d0)(hm:gF E main)(hg:gs[i+1]?=some g) (hs:g.status= .running) (F8:D[i]?≠some (.back .leaf)) (CE:∀n,cl≠some (i,.run .leaf,n))
 (hw:(∃o,D[i]?=some (.work o .leaf))→main.status= .running):
 ∃K' kR w' u D' cl',runT E.P (crowd gs w sl) (i+1)=(.next (crowd kR w' sl),u)∧Inv E L K' kR w' (t++u) D' pend cl' main d0∧K' 0=K 0∧ko D'=ko D∧cl'.isSome=cl.isSome∧PLt E.max (D',cl') (D,cl)∧∀o,ar.gA o∈D'→ar.gA o∈D∨main.status= .running:=by
 have cK:i <D.length:=by have:=lt_size hg;have:=h.base.size;omega
 have hD:D[i]?=some D[i]:=List.getElem?_eq_getElem cK
 have fin:qn E L K D pend cl main d0 (crowd gs w sl) sl t (i+1)→
  ∃K' kR w' u D' cl',runT E.P (crowd gs w sl) (i+1)=(.next (crowd kR w' sl),u)∧Inv E L K' kR w' (t++u) D' pend cl' main d0∧K' 0=K 0∧ko D'=ko D∧cl'.isSome=cl.isSome∧PLt E.max (D',cl') (D,cl)∧∀o,ar.gA o∈D'→ar.gA o∈D∨main.status= .running:=by
  rintro⟨K',kR,w',u,D',cl',h1,h2,h3,h4,h5,h6,h7,h8⟩
  refine⟨K',kR,w',u,D',cl',h1,h2,h3,h4,?_,Prod.Lex.left _ _ h5,h8⟩
  cases hc:cl with
  |none=>rw[h6 hc]
  |some x=>have:=h7 (by rw[hc];simp);cases cl'<;>simp_all
 obtain⟨x,hx,fg⟩:=h.base.ok i _ hD
 obtain rfl:x=g:=by rw[hg] at hx;exact(Option.some.inj hx).symm
 generalize hr:D[i]=r at hD fg
 match r,hD,fg with
 | .leave q d c,hD,fg=>exact fin (h.leave hm hD hg hs)
 | .work o (.node f),hD,fg=>exact fin (h.work hm hD hg)
 | .work o .leaf,hD,fg=>exact fin (h.Xs (hw ⟨o,hD⟩) hD hg)
 | .gA o,hD,⟨_,uD,p8,v,zs,X,Y,e,_⟩=>rw[e] at hs;cases hs
 | .back (.node f),hD,fg=>exact fin (h.back hm hD hg)
 | .back .leaf,hD,fg=>exact absurd hD F8
 | .st k (n+1),hD,fg=>exact fin (h.apH hm hD hg)
 | .st .r0 0,hD,fg=>exact fin (h.r0 hm hD hg)
 | .st .k1 0,hD,fg=>exact fin (h.k1 hm hD hg)
 | .st .d1 0,hD,fg=>exact fin (h.d1 hm hD hg)
 | .st .d2 0,hD,fg=>exact fin (h.d2 hm hD hg)
 | .st .d3 0,hD,fg=>exact fin (h.d3 hm hD hg)
 | .st .d4 0,hD,fg=>exact fin (h.d4 hm hD hg)
 | .closer,hD,fg=>
  have iT:=h.sy.DF
  match cl,h,iT,CE with
  |none,h,iT,_=>exact(iT _ (List.mem_of_getElem? hD)).elim
  |some (ic,c,n),h,⟨_,hu,_,_,_⟩,CE=>
   have e:=hu i hD
   subst e
   obtain⟨K',kR,w',u,c',n',h1,h2,h3,h4⟩:=h.closer (sl:=sl) hm hg hs fun e=>CE n (by rw[e])
   exact⟨K',kR,w',u,D,_,h1,h2,h3,rfl,rfl,Prod.Lex.right _ h4,fun _ h=> .inl h⟩
theorem Inv.awake(h:Inv E L K gs w t D pend cl main d0)(hm:gF E main):∀x∈gs,Go.Conc.awake x:=by
 intro x hx
 obtain⟨j,hj,rfl⟩:=Array.mem_iff_getElem.1 hx
 have hj':gs[j]?=some gs[j]:=Array.getElem?_eq_getElem hj
 intro k
 cases j with
 |zero=>
  rw[h.main] at hj'
  rw[←Option.some.inj hj']
  rcases hm with e| ⟨m,z,rfl⟩
  ·rw[e];simp
  ·simp[parked]
 |succ j=>
  have cK:j <D.length:=by have:=h.base.size;omega
  have hD:D[j]?=some D[j]:=List.getElem?_eq_getElem cK
  obtain⟨y,hy,fg⟩:=h.base.ok j _ hD
  rw[hj'] at hy
  rw[Option.some.inj hy]
  by_cases hb:∃o,D[j]= .gA o
  ·obtain⟨o,e⟩:=hb
   rw[e] at fg
   obtain⟨_,uD,p8,v,zs,X,Y,rfl,_⟩:=fg
   simp[parked]
  ·by_cases hc:D[j]= .closer
   ·have iT:=h.sy.DF
    match cl,iT with
    |none,iT=>
     have:=iT D[j] (List.mem_of_getElem? hD)
     rw[hc] at this
     exact this.elim
    |some (ic,c,n),⟨_,h2,_,⟨gc,Eb,py⟩,_⟩=>
     have e:=h2 j (by rw[hD,hc])
     subst e
     rw[hj',hy] at Eb
     obtain rfl:=Option.some.inj Eb
     by_cases aeX:c= .blk
     ·subst aeX
      obtain⟨_,uD,anQ,e⟩:=py
      rw[e];simp
     ·rw[CK.tS py aeX];simp
   ·rcases fg.running (fun o e=>hb ⟨o,e⟩) hc with e|e<;>rw[e]<;>simp
theorem Inv.le0(h:Inv E L K gs w t D pend cl main d0)(hl:s.le (K 0)):Inv E L (fL K 0 s) gs w t D pend cl main d0:=by
 have hle:∀j,(fL K 0 s j).le (K j):=fun j=>by
  by_cases e:j=0
  ·subst e;rw[aF];exact hl
  ·rw[aH _ _ e];exact St.le_refl _
 refine⟨⟨h.base.fit.le hle,h.base.size,fun k r hk=>?_,fun k hk b hb=>h.base.far k hk b ((hle k).knows hb),h.base.ops,h.base.same⟩,
  ⟨fun j hj=>h.sy.kW j ((hle j).knows hj),fun j hj=>h.sy.kC j ((hle j).knows hj),h.sy.lW,h.sy.lC,h.sy.ne,h.sy.norel,h.sy.plain,h.sy.said,h.sy.cells,h.sy.Bw,h.sy.chan,h.sy.bal,?_⟩,h.main,h.deaf⟩
 ·rw[aH _ _ (by omega)];exact h.base.ok k r hk
 ·have iT:=h.sy.DF
  match cl,iT with
  |none,iT=>exact iT
  |some (ic,c,n),⟨h1,h2,h3,⟨gc,Eb,py⟩,h5⟩=>exact⟨h1,h2,h3,⟨gc,Eb,by rw[aH _ _ (by omega)];exact py⟩,h5⟩
def TC(E:dS ι)(L:Nat→Option Obj)(Q:Machine→Outcome→World→Trace→Prop)(pend:Nat)(b:Bool)(os:List ι)(d0:Nat)(g:Goroutine)(s:St):Prop:=
 ∀K gs w t D cl sl,cl.isSome=b→Inv E L K gs w t D pend cl g d0→ko D=os→s.le (K 0)→Ends E.P Q (crowd gs w sl) t
theorem wo{Q:Machine→Outcome→World→Trace→Prop}{os:List ι}(hs:g.status= .running)
 (h:∀K gs w t D cl sl m,cl.isSome=b→Inv E L K gs w t D pend cl g d0→ko D=os→K 0=s→stepT E.P m=runT E.P (crowd gs w sl) 0→Ends E.P Q m t)
 (iG:b=true→pend=0∧d0=0∧(os=[]→∀pc,TL E.P (iY pc) L (Hl E pc) Q g s)):TC E L Q pend b os d0 g s:=by
 intro K gs w t D cl sl hb hI ho hle
 have key:∀μ:List (ar ι)×yX,∀K gs w t sl,μ.2.isSome=b→Inv E L K gs w t μ.1 pend μ.2 g d0→ko μ.1=os→K 0=s→Ends E.P Q (crowd gs w sl) t:=by
  intro μ
  induction μ using (PLt.wf E.max).induction with
  |_ μ ih=>
   obtain⟨D,cl⟩:=μ
   intro K gs w t sl hb hI ho hK
   simp only at hb hI ho
   obtain⟨i,fp,d,Qz,dg,FT,bS⟩:=crowd_pick (P:=E.P) (gs:=gs) (w:=w) (sl:=sl) (hI.awake (.inl hs)) ⟨0,g,hI.main,hs⟩
   have yz:=hI.at d
   cases i with
   |zero=>exact h K gs _ t D cl Qz _ hb yz ho hK bS
   |succ i=>
    by_cases V8:D[i]?=some (.back .leaf)
    ·obtain⟨n,h1,h2,h3⟩:=hI.norm V8
     exact ih (_,cl) (Prod.Lex.left _ _ h3) _ gs w t sl hb h1 (h2.trans ho) (by rw[aH _ _ (by omega)];exact hK)
    ·by_cases hc:∃n,cl=some (i,.run .leaf,n)
     ·obtain⟨n,e⟩:=hc
      subst e
      obtain⟨hp,hd,hT⟩:=iG (by rw[←hb];rfl)
      subst hp
      obtain⟨kR,w',u,q,hr,hL,h0,hdd,hG,sV⟩:=yz.close (sl:=Qz) (main':=g) (fun a a' w' _ _ _=>by
       unfold Go.Conc.woken
       split
       ·exact again_running _ (.inl hs)
       ·rfl) dg
      exact Ends.next (bS.trans hr) (hT (ho.symm.trans sV) (t.size+1) _ kR w' _ q Qz hL h0 (by simp only[if_true];rw[hK];exact St.le_refl _) (by rw[hdd];exact hd) hG)
     ·obtain⟨K',kR,w',u,D',cl',hr,HG,lL,Hv,gp,cK,_⟩:=yz.other (sl:=Qz) (.inl hs) dg FT V8 (fun n e=>hc ⟨n,e⟩) (fun _=>hs)
      exact Ends.next (bS.trans hr) (ih (D',cl') cK K' kR w' _ Qz (gp.trans hb) HG (Hv.trans ho) (lL.trans hK))
 exact key (D,cl) _ gs w t sl hb (hI.le0 hle) ho (aF _ _ _)
end
section
variable {ι:Type} {E:dS ι} {L:Nat→Option Obj} {Q:Machine→Outcome→World→Trace→Prop} {g:Goroutine} {s:St}
theorem UA(Tf:L E.Ch=none){x:Goroutine}(hx:x.status= .running)(bS:∀w,aU s w→stepG E.P true x w= .comm g #[rcase E.Ch z] true (.recv true) w #[])
 (mT:∀w,aU s w→(∀b o,L b=some o→w.heap[b]?=some o)→aU s' w) (yU:∀b,s'.knows b→L b≠none∨s.knows b)
 (hT:TL E.P eH (fun _=>none) (Calm E.os E.out) Q (Conc.served g (.tuple #[z,.bool false])) s'):TL E.P (iY pc) L (Hl E pc) Q x s:=by
 refine J6 (PK pc) (Gy E pc) hx fun K gs w t q sl m hL h0 hK hd hG hm _=>?_
 subst hK
 obtain⟨⟨sn,tm,hc⟩,hkC,ak7,as4,aAF,adS⟩:=hG
 have Hw:partners (gs.setIfInBounds 0 ph) E.Ch true=[]:=partners_nil fun j y hy=>by
  rcases getElem?_stand gs _ _ _ hy with ⟨_,rfl⟩| ⟨hj,Ym⟩
  ·exact offersAt_ph _ _
  ·cases j with
   |zero=>exact absurd rfl hj
   |succ j=>
    have cK:j <q.length:=by have:=lt_size Ym;have:=hL.size;omega
    obtain⟨y',d,hy2,hq,_⟩:=hL.ok j _ (List.getElem?_eq_getElem cK)
    rw[Ym] at hy2
    rw[Option.some.inj hy2]
    exact qH hq.status _ _
 have bV:=crowd_recv_closed (sl:=sl) h0 (by simpa using bS w (hL.fit.jI 0)) hc Hw
 have e0:MemOp.ofEvents 0 x.frame.fn x.frame.place #[]= #[]:=rfl
 rw[e0,Array.empty_append] at bV
 generalize hu:(#[{g:=0,fn:=g.frame.fn,pos:=g.frame.place,act:= .recvClosed E.Ch}]:Trace)=u at bV
 have Jq:∀op∈u,op.g=0∧op.act= .recvClosed E.Ch:=by rw[←hu];intro op aB;simp at aB;subst aB;exact⟨rfl,rfl⟩
 have VQ:∀op∈u,op.act.touch?=none:=fun op aB=>by rw[(Jq op aB).2];rfl
 have Pq:∀op∈u,∀m,op.act≠ .mark m:=fun op aB m=>by rw[(Jq op aB).2];simp
 have hr:(t++u)[t.size]?=some {g:=0,fn:=g.frame.fn,pos:=g.frame.place,act:= .recvClosed E.Ch}:=by rw[←hu];simp
 have anF:=lt_of_act? ak7
 have Y1:HappensBefore (t++u) pc t.size:= .single (.inr ⟨.closed (c:=E.Ch) (by rw[act?_old anF];exact ak7) (by rw[act?_of hr]),(heard_old anF).2 as4,⟨0,by simp[Trace.g?,hr],by rw[deaf_old (Nat.le_refl _)];exact hd⟩⟩)
 have dr:∀i n,q[i]?=some n→eH (t++u) (i+1):=fun i n hi=>by
  obtain⟨y,d,hy,hq,hdd,hk⟩:=hL.ok i n hi
  rcases hk.2 with hk|hk
  ·exact hk.quiet VQ
  ·intro p hp hct
   obtain⟨op,ho,hgo⟩:=Option.map_eq_some_iff.1 hp
   rcases getElem?_append_cases ho with ⟨SR,_⟩| ⟨_,iS⟩
   ·exact⟨t.size,by simp[Trace.g?,hr],(hb_app u (hk p (by rw[←g?_old (u:=u) SR];exact hp) ((counts_old SR).1 hct))).trans Y1⟩
   ·rw[(Jq op iS).1] at hgo;omega
 have oW:=hL.fit.quiet (u:=u) (w':=w) E.Ch (fun j=>by
  by_cases e:j=0
  ·subst e;exact hkC
  ·exact hL.none j _ e) Tf (Nat.le_refl _) (fun _ _ _=>rfl) VQ
 refine Ends.next (hm.trans bV) (hT (fL K 0 s') _ w _ q sl ⟨?_,by simp[hL.size],fun i n hi=>?_,fun i b hi hk=>?_,fun op aB=>?_⟩ ?_ (by rw[aF];exact St.le_refl _) (by rw[fW _ _ _ Pq];exact hd) ⟨fun a=>(aAF a).app fun op aB=>Pq op aB _,adS⟩)
 ·refine oW.alone (i:=0) (fun j hj b=>hL.none j b hj) s' (mT w (hL.fit.jI 0) hL.fit.De) yU fun b hb p y hy QJ hyb=>?_
  obtain⟨op,ho,hyo⟩:=touch_of hy
  have cK:op.g <gs.size:=by
   rcases Array.mem_append.1 (mem_of_getElem? ho) with h'|h'
   ·exact hL.ops op h'
   ·rw[(Jq op h').1,hL.size];omega
  cases hgo:op.g with
  |zero=>have:=knows_own ho;rwa[hgo] at this
  |succ k=>
   have hk:k <q.length:=by have:=hL.size;omega
   obtain⟨j,hj,mo⟩:=dr k _ (List.getElem?_eq_getElem hk) p (by simp[Trace.g?,ho,hgo]) ⟨y,by simpa [touchAt] using hy,by cases hl:y.loc<;>simp_all[blk,Loc.isMemory],.inl (by rw[QJ];simp)⟩
   obtain⟨z',Dg,hzg⟩:=Option.map_eq_some_iff.1 hj
   exact⟨j,z',Dg,hzg,.inr mo⟩
 ·obtain⟨y,d,hy,hq,hdd,hk⟩:=hL.ok i n hi
  exact⟨y,d,by rw[Array.getElem?_setIfInBounds_ne (by omega)];exact hy,hq,by rw[fW _ _ _ Pq];exact hdd,dr i n hi⟩
 ·rw[aH _ _ hi] at hk;exact hL.none i b hi hk
 ·rw[Array.size_setIfInBounds]
  rcases Array.mem_append.1 aB with h'|h'
  ·exact hL.ops op h'
  ·rw[(Jq op h').1,hL.size];omega
 ·have:0 <gs.size:=by rw[hL.size];omega
  simp[this,finishComm_recv,recvd]
end
section
variable {ι:Type} {E:dS ι} {L:Nat→Option Obj} {K:Nat→St} {gs:Array Goroutine} {w w':World} {t:Trace} {D:List (ar ι)} {pend d0:Nat} {cl:yX} {main:Goroutine} {sl:Option (Nat×Nat)}
 {i:Nat} {Q:Machine→Outcome→World→Trace→Prop} {g:Goroutine} {s:St}
theorem setChan_at(w:World)(d c:Nat)(h:c <w.heap.size)(sn rc:Nat)(tm:Bool):
 ((w.at d).setChan c 0 #[] false sn rc tm).heap[c]?=some (.chan 0 #[] false sn rc tm)∧((w.at d).setChan c 0 #[] false sn rc tm).heap.size=w.heap.size∧
 ∀b,b≠c→((w.at d).setChan c 0 #[] false sn rc tm).heap[b]?=w.heap[b]?:=by
 refine⟨by simp[World.setChan,World.at,h],by simp[World.setChan,World.at],fun b hb=>by simp[World.setChan,World.at,Ne.symm hb]⟩
theorem Inv.alive(h:Inv E L K gs w t D 0 cl main d0)(iG:cl≠none)(hn:∀o,ar.gA o∉D):∃(i:Nat) (x:Goroutine),gs[i]?=some x∧x.status= .running:=by
 by_cases dr:∀r∈D,r.left=true∨r= .closer
 ·have iT:=h.sy.DF
  obtain⟨st,sm,_,mP⟩:=h.sy.cells
  match cl,iT,mP,iG with
  |some (ic,c,n),⟨_,_,_,⟨gc,Eb,py⟩,_⟩,mP,_=>
   refine⟨_,gc,Eb,CK.tS py fun e=>?_⟩
   subst e
   have z:∀(f:ar ι→Nat),(∀q d c,f (.leave q d c)=0)→f .closer=0→fx f D=0:=fun f h1 h2=>by
    unfold fx
    rw[List.sum_eq_zero_iff_forall_eq_nat]
    intro x hx
    obtain⟨r,hr,rfl⟩:=List.mem_map.1 hx
    rcases dr r hr with e|rfl
    ·cases r<;>first|exact h1 _ _ _|cases e
    ·exact h2
   have z1:=z ar.cnt (fun _ _ _=>rfl) rfl
   have z4:=z ar.c4 (fun _ _ _=>rfl) rfl
   have z3:=z ar.c3 (fun _ _ _=>rfl) rfl
   have z2:=z ar.c2 (fun _ _ _=>rfl) rfl
   rw[z1,z4,z3,z2] at mP
   simp only[Option.map_some] at mP
   generalize ho:some CK.blk=o at mP
   generalize h0:0+0=k at mP
   cases mP with
   |reg _ h2=>omega
   |sema _ h2=>cases ho;exact h2 rfl
   |over h1=>cases ho;exact h1.elim
   |_=>cases ho
 ·obtain⟨r,lI⟩:=Classical.not_forall.1 dr
  obtain⟨hr,HH⟩:=Classical.not_imp.1 lI
  have h1:¬r.left=true:=fun e=>HH (.inl e)
  have h2:r≠ .closer:=fun e=>HH (.inr e)
  obtain⟨k,hk⟩:=List.getElem?_of_mem hr
  obtain⟨x,hx,fg⟩:=h.base.ok k r hk
  refine⟨_,x,hx,?_⟩
  cases r with
  |leave q d c=>exact absurd rfl h1
  |work o tr=>exact oB.running (fun _ _ y=>y.1) fg.2
  |gA o=>exact absurd hr (hn o)
  |back tr=>exact oB.running (fun _ _ y=>dS.pure.running (fun _ z=>z.1) y) fg.2
  |st k n=>exact Pure.running (WK.running k) fg.2.2.1
  |closer=>exact absurd rfl h2
theorem Inv.Xt(h:Inv E L K gs w t D pend cl (parked g #[rcase E.Ch z] (.recv true)) 0)(iG:cl≠none){o:ι}{gw:Goroutine}(hi:D[i]?=some (.work o .leaf)) (hg:gs[i+1]?=some gw):
 ∃K' kR w' u D' v X a b,runT E.P (crowd gs w sl) (i+1)=(.next (crowd kR w' sl),u)∧Inv E L K' kR w' (t++u) D' pend cl (Conc.served g (.tuple #[v,.bool true])) 0∧K' 0=⟨(K 0).ro,X++(K 0).rw⟩∧
  E.Uj o v X∧ko D=a++o::b∧ko D'=a++b:=by
 obtain⟨fp,dg,fg⟩:=h.base.ok i _ hi
 obtain rfl:fp=gw:=by rw[hg] at dg;exact(Option.some.inj dg).symm
 obtain⟨hd,hs,p8,v,zs,X,Y,hXY,od,bS,tr,ig,hle,xu⟩:=fg
 obtain⟨sn,rc,tm,hc⟩:=h.sy.chan
 have uA:=h.base.size
 have aOU:partners (gs.setIfInBounds (i+1) ph) E.Ch false=[(0,0)]:=by
  have h0:(gs.setIfInBounds (i+1) ph)[0]?=some (parked g #[rcase E.Ch z] (.recv true)):=stand_get (by omega) h.main
  rw[partners_one h0 fun k x hk hx=>?_]
  ·rw[offersAt_parked_recv];simp
  ·rcases getElem?_stand gs _ _ _ hx with ⟨_,rfl⟩| ⟨_,lH⟩
   ·exact offersAt_ph _ _
   ·cases k with
    |zero=>exact absurd rfl hk
    |succ k=>
     rcases h.offers lH with ⟨o',g',v',zs',_,rfl⟩|hn
     ·exact offersAt_parked_send' _ _ _ _ _ _
     ·exact hn _ _
 have bV:=crowd_send_meets (sl:=sl) hg (by simpa using bS w (h.base.fit.jI _)) hc (by omega) h.main aOU
 have e0:MemOp.ofEvents (i+1) fp.frame.fn fp.frame.place #[]= #[]:=rfl
 rw[e0,Array.empty_append] at bV
 obtain⟨a,b,ha,hb⟩:=Bq (r':=ar.back tr) rfl hi (o:=o) rfl
 have hwc:=setChan_at w w.drawn E.Ch (lt_size hc) (sn+1) (rc+1) tm
 refine⟨_,_,_,_,_,v,X,a,b,bV,h.meet iG hi (.inl rfl) hd hXY hle xu (by simp) ?_ ?_ (fun k h1 h2=>?_) hc hwc.1 hwc.2.1 hwc.2.2 ⟨rfl,rfl⟩ ⟨rfl,rfl⟩ ⟨rfl,rfl⟩ ⟨rfl,rfl⟩ ⟨rfl,rfl⟩,aF _ _ _,od,ha,hb⟩
 ·rw[Array.getElem?_setIfInBounds_ne (by omega),Array.getElem?_setIfInBounds_self_of_lt (by omega)]
  rw[finishComm_recv];rfl
 ·rw[Array.getElem?_setIfInBounds_self_of_lt (by have:=lt_size hg;simpa using this)]
  rw[finishComm_send]
 ·rw[Array.getElem?_setIfInBounds_ne (Ne.symm h2),Array.getElem?_setIfInBounds_ne (Ne.symm h1)]
theorem Ol{os:List ι}
 (Js:∀a o b v X,os=a++o::b→E.Uj o v X→TC E L Q 0 true (a++b) 0 (Conc.served g (.tuple #[v,.bool true])) ⟨s.ro,X++s.rw⟩)
 (oX:os=[]→∀pc,TL E.P (iY pc) L (Hl E pc) Q {parked g #[rcase E.Ch z] (.recv true) with status:= .running} s):
 ∀(μ:List (ar ι)×yX) K gs w t sl,μ.2.isSome=true→Inv E L K gs w t μ.1 0 μ.2 (parked g #[rcase E.Ch z] (.recv true)) 0→ko μ.1=os→K 0=s→(∀o,ar.gA o∉μ.1)→Ends E.P Q (crowd gs w sl) t:=by
 intro μ
 induction μ using (PLt.wf E.max).induction with
 |_ μ ih=>
  obtain⟨D,cl⟩:=μ
  intro K gs w t sl hb hI ho hK hn
  simp only at hb hI ho hn
  have iG:cl≠none:=fun e=>by rw[e] at hb;cases hb
  have Pp:gF E (parked g #[rcase E.Ch z] (.recv true)):= .inr ⟨g,z,rfl⟩
  obtain⟨i,fp,d,Qz,dg,FT,bS⟩:=crowd_pick (P:=E.P) (gs:=gs) (w:=w) (sl:=sl) (hI.awake Pp) (hI.alive iG hn)
  have yz:=hI.at d
  cases i with
  |zero=>rw[hI.main] at dg;rw[←Option.some.inj dg] at FT;cases FT
  |succ i=>
   by_cases V8:D[i]?=some (.back .leaf)
   ·obtain⟨n,h1,h2,h3⟩:=hI.norm V8
    refine ih (_,cl) (Prod.Lex.left _ _ h3) _ gs w t sl hb h1 (h2.trans ho) (by rw[aH _ _ (by omega)];exact hK) fun o hm=>?_
    rcases List.mem_or_eq_of_mem_set hm with h'|h'
    ·exact hn o h'
    ·cases h'
   ·by_cases hc:∃n,cl=some (i,.run .leaf,n)
    ·obtain⟨n,e⟩:=hc
     subst e
     obtain⟨kR,w',u,q,hr,hL,h0,hdd,hG,sV⟩:=yz.close (sl:=Qz) (main':={parked g #[rcase E.Ch z] (.recv true) with status:= .running}) (fun a a' w' hmw mT ⟨sn,tm,sC⟩=>by
      have:(mayWake E.P a&&a'.status != .blocked&&a'.status != .waiting)=true:=by rcases mT with e|e<;>simp[hmw,e]
      unfold Go.Conc.woken
      rw[if_pos this]
      exact again_recv_closed sC) dg
     exact Ends.next (bS.trans hr) (oX (ho.symm.trans sV) (t.size+1) _ kR w' _ q Qz hL h0 (by simp only[if_true];rw[hK];exact St.le_refl _) (by rw[hdd]) hG)
    ·by_cases Dl:∃o,D[i]?=some (.work o .leaf)
     ·obtain⟨o,hi⟩:=Dl
      obtain⟨K',kR,w',u,D',v,X,a,b,hr,HG,lL,od,ha,mo⟩:=yz.Xt (sl:=Qz) iG hi dg
      refine Ends.next (bS.trans hr) (Js a o b v X (ho.symm.trans ha) od K' kR w' _ D' cl Qz hb HG mo ?_)
      rw[lL,hK];exact St.le_refl _
     ·obtain⟨K',kR,w',u,D',cl',hr,HG,lL,Hv,gp,cK,Ys⟩:=yz.other (sl:=Qz) Pp dg FT V8 (fun n e=>hc ⟨n,e⟩) (fun hx=>absurd hx Dl)
      refine Ends.next (bS.trans hr) (ih (D',cl') cK K' kR w' _ Qz (gp.trans hb) HG (Hv.trans ho) (lL.trans hK) fun o hm=>?_)
      rcases Ys o hm with h'|h'
      ·exact hn o h'
      ·cases h'
theorem UE{os:List ι}(hs:g.status= .running)(bS:∀w,aU s w→stepG E.P true g w= .comm g #[rcase E.Ch z] true (.recv true) w #[])
 (Js:∀a o b v X,os=a++o::b→E.Uj o v X→TC E L Q 0 true (a++b) 0 (Conc.served g (.tuple #[v,.bool true])) ⟨s.ro,X++s.rw⟩)
 (oX:os=[]→∀pc,TL E.P (iY pc) L (Hl E pc) Q g s∧TL E.P (iY pc) L (Hl E pc) Q {parked g #[rcase E.Ch z] (.recv true) with status:= .running} s):TC E L Q 0 true os 0 g s:=by
 refine wo hs (fun K gs w t D cl sl m hb hI ho hK hm=>?_) fun _=>⟨rfl,rfl,fun h pc=>(oX h pc).1⟩
 have iG:cl≠none:=fun e=>by rw[e] at hb;cases hb
 obtain⟨sn,rc,tm,hc⟩:=hI.sy.chan
 have hgo:=bS w (hK▸hI.base.fit.jI 0)
 have e0:MemOp.ofEvents 0 g.frame.fn g.frame.place #[]= #[]:=rfl
 by_cases eg:partners (gs.setIfInBounds 0 ph) E.Ch true=[]
 ·have bV:=crowd_waits (sl:=sl) hI.main (by simpa using hgo) (fun cc uj=>by
   simp only[List.mem_toArray,List.mem_singleton] at uj
   subst uj
   exact ways_recv_none hc eg)
  rw[e0] at bV
  have uA:=hI.base.size
  refine Ends.next (hm.trans bV) (Ol Js (fun h pc=>(oX h pc).2) (D,cl) K _ w _ sl hb ⟨⟨?_,by simp[uA],fun k r hk=>?_,fun k hk=>hI.base.far k (by simpa using hk),fun op aB=>?_,hI.base.same⟩,?_,?_,?_⟩ ho hK fun o hm=>?_)
  ·rw[Array.append_empty];exact hI.base.fit
  ·obtain⟨x,hx,fg⟩:=hI.base.ok k r hk
   exact⟨x,by rw[Array.getElem?_setIfInBounds_ne (by omega)];exact hx,by rw[Array.append_empty];exact fg⟩
  ·rw[Array.append_empty] at aB;rw[Array.size_setIfInBounds];exact hI.base.ops op aB
  ·rw[Array.append_empty]
   refine⟨hI.sy.kW,hI.sy.kC,hI.sy.lW,hI.sy.lC,hI.sy.ne,hI.sy.norel,hI.sy.plain,hI.sy.said,hI.sy.cells,hI.sy.Bw,hI.sy.chan,hI.sy.bal,?_⟩
   have iT:=hI.sy.DF
   match cl,iT with
   |none,iT=>exact iT
   |some (ic,c,n),⟨h1,h2,h3,⟨gc,Eb,py⟩,h5⟩=>exact⟨h1,h2,h3,⟨gc,by rw[Array.getElem?_setIfInBounds_ne (by omega)];exact Eb,py⟩,h5⟩
  ·rw[Array.getElem?_setIfInBounds_self_of_lt (by omega)]
  ·rw[Array.append_empty];exact hI.deaf
  ·obtain⟨k,hk⟩:=List.getElem?_of_mem hm
   obtain⟨x,hx,_,uD,p8,v,zs,X,Y,rfl,_⟩:=hI.base.ok k _ hk
   have:((k+1,0):Nat×Nat)∈partners (gs.setIfInBounds 0 ph) E.Ch true:=mem_partners.2 ⟨_,stand_get (by omega) hx,by rw[offersAt_parked_send];simp⟩
   rw[eg] at this;cases this
 ·obtain⟨j,gj,vj,zj,shj,d,hj0,hj,bV⟩:=crowd_recv_meets_some (sl:=sl) hI.main (by simpa using hgo) hc eg fun j k Ng=>by
   obtain⟨x,hx,hk⟩:=mem_partners.1 Ng
   rcases getElem?_stand gs _ _ _ hx with ⟨_,rfl⟩| ⟨hj0,lH⟩
   ·rw[offersAt_ph] at hk;cases hk
   ·cases j with
    |zero=>exact absurd rfl hj0
    |succ j=>
     rcases hI.offers lH with ⟨o',g',v',zs',_,rfl⟩|hn
     ·rw[offersAt_parked_send] at hk
      simp at hk
      exact⟨hk,by omega,_,_,_,_,lH⟩
     ·rw[hn] at hk;cases hk
  rw[e0,Array.empty_append] at bV
  cases j with
  |zero=>exact absurd rfl hj0
  |succ i=>
   rcases hI.offers hj with ⟨o,p8,v,zs,hi,e⟩|hn
   ·obtain⟨x,hx,yy,uD,aEy,v',zs',X,Y,e',hXY,od,_,tr,ig,hle,xu⟩:=hI.base.ok i _ hi
    obtain rfl:x=parked gj #[scase E.Ch vj zj] shj:=by rw[hj] at hx;exact(Option.some.inj hx).symm
    have hv:vj=v':=by
     have:=congrArg Goroutine.offers e'
     simp only[parked,scase,Option.some.injEq,Prod.mk.injEq,Array.mk.injEq,List.cons.injEq,CommCase.mk.injEq] at this
     exact this.1.1.2.1
    have hsv:gj.finishComm E.P #[scase E.Ch vj zj] shj 0 undef false=Conc.served aEy undef:=by
     have h1:shj= .send:=by
      have:=congrArg Goroutine.offers e'
      simp only[parked,Option.some.injEq,Prod.mk.injEq] at this
      exact this.2
     subst h1
     rw[finishComm_send]
     have h2:=congrArg (fun x:Goroutine=>Conc.served x undef) e'
     exact h2
    subst hv
    obtain⟨a,b,ha,mo⟩:=Bq (r':=ar.back tr) rfl hi (o:=o) rfl
    have hwc:=setChan_at w d E.Ch (lt_size hc) (sn+1) (rc+1) tm
    have uA:=hI.base.size
    refine Ends.next (hm.trans bV) (Js a o b vj X (ho.symm.trans ha) od _ _ _ _ (D.set i (.back tr)) cl sl hb
     (hI.meet iG hi (.inr rfl) yy hXY hle xu (by simp) ?_ ?_ (fun k h1 h2=>?_) hc hwc.1 hwc.2.1 hwc.2.2 ⟨rfl,rfl⟩ ⟨rfl,rfl⟩ ⟨rfl,rfl⟩ ⟨rfl,rfl⟩ ⟨rfl,rfl⟩) mo ?_)
    ·rw[Array.getElem?_setIfInBounds_self_of_lt (by simp;omega),finishComm_recv];rfl
    ·rw[Array.getElem?_setIfInBounds_ne (by omega),Array.getElem?_setIfInBounds_self_of_lt (lt_size hj),hsv]
    ·rw[Array.getElem?_setIfInBounds_ne (Ne.symm h1),Array.getElem?_setIfInBounds_ne (Ne.symm h2)]
    ·rw[aF,hK];exact St.le_refl _
   ·have:(0:Nat)∈offersAt (parked gj #[scase E.Ch vj zj] shj) E.Ch true:=by rw[offersAt_parked_send];simp
    rw[hn] at this;cases this
end
section
variable {ι:Type} {E:dS ι} {L:Nat→Option Obj} {K:Nat→St} {gs:Array Goroutine} {w w':World} {t:Trace} {D:List (ar ι)} {pend d0:Nat} {cl:yX} {sl:Option (Nat×Nat)}
 {Q:Machine→Outcome→World→Trace→Prop} {g g':Goroutine} {s:St} {es:Array Event}
theorem Inv.go0(h:Inv E L K gs w t D pend cl g d0)(hgo:stepG E.P true g w= .go g' w' es)(O9:Uk w w')(cy:¬s'.knows E.Wg)(pY:¬s'.knows E.Ch)(uL:w'.heap[E.Ch]?=w.heap[E.Ch]?)
 (oW:Fit L (fL K 0 s') w' (t++MemOp.ofEvents 0 g.frame.fn g.frame.place es))
 (kM:∀op∈MemOp.ofEvents 0 g.frame.fn g.frame.place es,∀x,op.act.touch?=some x→E.At x→x.kind≠ .plain∧(x.kind= .said→cl=none))
 (ir:∀op∈MemOp.ofEvents 0 g.frame.fn g.frame.place es,∀a,op.act≠ .mark (.release a)) 
 (nz:∀cl',yN cl cl'→∃st sm,WgAt E.ty E.Wg w' st sm∧Md E.max (fx ar.cnt D+lT) (fx ar.c4 D) (fx ar.c3 D) (fx ar.c2 D) (cl'.map (·.2.1)) st sm) (Po:fx ar.cnt D+lT≤E.max):
 ∃kR u cl',runT E.P (crowd gs w sl) 0=(.next (crowd kR w' sl),u)∧Inv E L (fL K 0 s') kR w' (t++u) D lT cl' g' (deafBehind d0 es)∧cl'.isSome=cl.isSome:=by
 have Jq:∀op∈MemOp.ofEvents 0 g.frame.fn g.frame.place es,op.g=0:=fun op aB=>Go.ConcR.g_of_ofEvents op aB
 have bV:=runT_crowd_go (P:=E.P) (sl:=sl) (i:=0) h.main (by simpa using hgo)
 have hdo:Deaf (t++MemOp.ofEvents 0 g.frame.fn g.frame.place es) 0=deafBehind d0 es:=by rw[Deaf_own,h.deaf]
 generalize MemOp.ofEvents 0 g.frame.fn g.frame.place es=u at*
 obtain⟨sn,rc,tm,hc⟩:=h.sy.chan
 have sC:w'.heap[E.Ch]?=some (.chan 0 #[] false sn rc tm):=by rw[uL];exact hc
 have eg:∀k,∀op∈u,op.g≠k+1:=fun k op aB=>by rw[Jq op aB];omega
 have HB:∀b,¬s'.knows b→(∀j,¬(K j).knows b)→∀j,¬(fL K 0 s' j).knows b:=fun b h1 h2 j=>by
  by_cases e:j=0
  ·subst e;rw[aF];exact h1
  ·rw[aH _ _ e];exact h2 j
 obtain⟨cl',Dl,iT⟩:∃cl',yN cl cl'∧ahE E (fL K 0 s') ((gs.map (woken E.P g g' w')).setIfInBounds 0 g') (t++u) D cl':=by
  have iT:=h.sy.DF
  match cl,iT with
  |none,iT=>exact⟨none,.same _,iT⟩
  |some (ic,c,n),⟨h1,h2,h3,⟨gc,Eb,py⟩,h5⟩=>
   obtain⟨c',n',hw,atI,_,hdc⟩:=CK.tries (ic:=ic) py g g' w'
   refine⟨some (ic,c',n'),hw,h1,h2,by rw[gP _ _ (eg ic),hdc];exact h3,⟨_,fY (by omega) Eb,by rw[aH _ _ (by omega)];exact atI⟩,fun⟨tr,e⟩=>?_⟩
   subst e
   cases hw with
   |same=>
    obtain⟨q,a1,a2,a3,a4⟩:=h5 ⟨tr,rfl⟩
    have hq:=lt_of_act? a1
    exact⟨q,by rw[act?_old hq];exact a1,by rw[g?_old hq];exact a2,(heard_old hq).2 a3,fun i r hi hcu=>let ⟨p,hp,VS⟩:=a4 i r hi hcu;⟨p,RelBy.other hp (eg i),VS⟩⟩
 refine⟨_,u,cl',bV,⟨⟨oW,by simp[h.base.size],fun k r hk=>?_,fun k hk b hb=>?_,fun op aB=>?_,⟨O9.1.trans h.base.same.1,O9.2.trans h.base.same.2⟩⟩,
  ⟨HB _ cy h.sy.kW,HB _ pY h.sy.kC,h.sy.lW,h.sy.lC,h.sy.ne,fun a=>(h.sy.norel a).app fun op aB=>ir op aB a,fun j hj p x hx hb hk=>?_,?_,nz cl' Dl,Po,⟨sn,rc,tm,sC⟩,fun a b c hx=>h.sy.bal a b c (by rw[←uL];exact hx),iT⟩,?_,hdo⟩,by cases Dl<;>rfl⟩
 ·obtain⟨x,hx,fg⟩:=h.base.ok k r hk
  rw[aH _ _ (by omega)]
  have Yx:=fg.other (eg k)
  by_cases QT:r= .closer
  ·subst QT;exact⟨_,fY (by omega) hx,trivial⟩
  ·exact⟨x,by rw[fY (by omega) hx,fg.woken QT fun _=>⟨sn,rc,tm,sC⟩],Yx⟩
 ·rw[Array.size_setIfInBounds,Array.size_map] at hk
  have:=h.base.size
  rw[aH _ _ (by omega)] at hb
  exact h.base.far k hk b hb
 ·rw[Array.size_setIfInBounds,Array.size_map]
  rcases Array.mem_append.1 aB with h'|h'
  ·exact h.base.ops op h'
  ·rw[Jq op h',h.base.size];omega
 ·rcases bF hx with ⟨_,lH⟩| ⟨_,op,QO,_,xp⟩
  ·exact(h.sy.plain j hj p x lH hb hk).app u
  ·exact absurd hk (kM op QO x xp hb).1
 ·have Na:=h.sy.said
  match cl,cl',Dl,Na,kM with
  |none,_,.same _,Na,_=>
   intro p x hx hb hk
   rcases bF hx with ⟨_,lH⟩| ⟨hp,op,QO,aB,xp⟩
   ·exact(Na p x lH hb hk).app u
   ·exact BF Jq hp aB
  |some (ic,c,n),_,.same _,Na,kM=>
   intro he p x hx hb hk
   rcases bF hx with ⟨_,lH⟩| ⟨_,op,QO,_,xp⟩
   ·exact(Na he p x lH hb hk).app u
   ·exact absurd ((kM op QO x xp (.inl hb)).2 hk) (by simp)
  |_,_,.up ic,_,_=>exact fun he=>he.elim
 ·have:=h.base.size
  rw[Array.getElem?_setIfInBounds_self_of_lt (by simp;omega)]
theorem Inv.G0(h:Inv E L K gs w t D pend cl g d0)(hw:w'.heap[E.Wg]?=w.heap[E.Wg]?):∀cl',yN cl cl'→∃st sm,WgAt E.ty E.Wg w' st sm∧Md E.max (fx ar.cnt D+pend) (fx ar.c4 D) (fx ar.c3 D) (fx ar.c2 D) (cl'.map (·.2.1)) st sm:=by
 intro cl' Dl
 obtain⟨st,sm,ha,hm⟩:=h.sy.cells
 exact⟨st,sm,by unfold WgAt;rw[hw];exact ha,hm.aoU Dl⟩
def TM(E:dS ι)(L:Nat→Option Obj)(Q:Machine→Outcome→World→Trace→Prop)(pend:Nat)(b:Bool)(os:List ι)(d0:Nat)(g:Goroutine)(s:St):Prop:=
 TC E L Q pend b os d0 g s∧(b=true→os=[]→∀pc,TL E.P (iY pc) L (Hl E pc) Q g s)
theorem TC.mono{os:List ι}(hl:s.le s')(h:TC E L Q pend b os d0 g s):TC E L Q pend b os d0 g s':=
 fun K gs w t D cl sl hb hI ho hle=>h K gs w t D cl sl hb hI ho (hl.trans hle)
theorem fq(b:Bool)(os:List ι)(hb:b=true→pend=0):Closed E.P true (TM E L Q pend b os 0) where
 step:=fun g s hs h=>by
  have hL:b=true→os=[]→∀pc,TL E.P (iY pc) L (Hl E pc) Q g s:=fun e ho pc=>
   (Iz (PK pc) (Gy E pc) Q).step g s hs fun w ha=>let ⟨g',w',es,s',h1,h2,h3,h4⟩:=h w ha;⟨g',w',es,s',h1,h2,h3,h4.2 e ho pc⟩
  refine⟨wo hs (fun K gs w t D cl sl m iG hI ho hK hm=>?_) fun e=>⟨hb e,rfl,fun ho pc=>hL e ho pc⟩,hL⟩
  subst hK
  obtain⟨g',w',es,s',hgo,_,ht,hT,_⟩:=h w (hI.base.fit.jI 0)
  obtain⟨k1,k2,k3,k4,k5,k6⟩:=hI.sy.zo ht g.frame.fn g.frame.place
  obtain⟨kR,u,cl',hr,yz,S8⟩:=hI.go0 (sl:=sl) hgo ⟨ht.os,ht.output⟩ k1 k2 k4 (hI.base.fit.own ht _ _) (fun op aB x hx rC=>absurd rC (k5 op aB x hx)) k6 (hI.G0 k3) hI.sy.Bw
  rw[ht.deaf] at yz
  exact Ends.next (hm.trans hr) (hT _ kR w' _ D cl' sl (S8.trans iG) yz ho (by rw[aF];exact St.le_refl _))
 mono:=fun g s s' hl h=>⟨h.1.mono hl,fun e ho pc=>(h.2 e ho pc).mono hl⟩
theorem Md.opened{mx n a b c:Nat}{o:Option CK}{st sm:Int}(h:Md mx n a b c o st sm)(ho:o=none):st=(n:Int)*KK∧sm=0:=by
 cases h with
 |start=>exact⟨rfl,rfl⟩
 |_=>cases ho
theorem DV{os:List ι}{d':Nat}(hs:g.status= .running)(hb:b=false)
 (h:∀w st sm,WgAt E.ty E.Wg w st sm→(b=false→st=((os.length+pend:Nat):Int)*KK∧sm=0)→os.length+pend≤E.max→∃w',stepG E.P true g w= .go g' w' es∧eO E w w'∧WgAt E.ty E.Wg w' (((os.length+lT:Nat):Int)*KK) 0)
 (yu:∀e∈es,iD E e)(hd:deafBehind d0 es=d')(hp:os.length+pend≤E.max→os.length+lT≤E.max)(hT:TC E L Q lT b os d' g' s):TC E L Q pend b os d0 g s:=by
 subst hb
 refine wo hs (fun K gs w t D cl sl m iG hI ho hK hm=>?_) fun e=>(by cases e)
 subst hK
 have hcn:cl=none:=by cases cl<;>simp_all
 subst hcn
 have iT:=hI.sy.DF
 have atx:∀D:List (ar ι),(∀r∈D,r.early)→fx ar.cnt D=(ko D).length∧fx ar.c4 D=0∧fx ar.c3 D=0∧fx ar.c2 D=0:=by
  intro D
  induction D with
  |nil=>intro _;exact⟨rfl,rfl,rfl,rfl⟩
  |cons r D ih=>
   intro hr
   obtain⟨i1,i4,i3,i2⟩:=ih fun x hx=>hr x (by simp[hx])
   have:=hr r (by simp)
   simp only[fx,List.map_cons,List.sum_cons,ko,List.filterMap_cons] at*
   cases r<;>first|exact this.elim| (simp[ar.cnt,ar.c4,ar.c3,ar.c2,ar.U9,i1,i4,i3,i2];try omega)
 obtain⟨c1,c4,c3,c2⟩:=atx D iT
 rw[ho] at c1
 obtain⟨st,sm,ha,mP⟩:=hI.sy.cells
 have H9:=hI.sy.Bw
 rw[c1] at H9
 have bS:st=((os.length+pend:Nat):Int)*KK∧sm=0:=by
  rw[c1] at mP
  exact mP.opened rfl
 obtain⟨w',hgo,htu,uk⟩:=h w st sm ha (fun _=>bS) H9
 have aAv:=iD.ops yu 0 g.frame.fn g.frame.place
 obtain⟨kR,u,cl',hr,yz,S8⟩:=hI.go0 (sl:=sl) (s':=K 0) (lT:=lT) hgo htu.same (hI.sy.kW 0) (hI.sy.kC 0) (htu.block _ (Ne.symm hI.sy.ne)) (by rw[lQ];exact hI.sy.Ar hI.base.fit (.inl rfl) htu yu _ _)
  (fun op aB x hx _=>by rw[((aAv op aB).2.2 x hx).2];exact⟨by simp,by simp⟩) (fun op aB=>(aAv op aB).2.1) (fun cl' hw=>by
   cases hw
   rw[c1,c4,c3,c2]
   exact⟨_,_,uk,.start⟩) (by rw[c1];exact hp H9)
 rw[hd] at yz
 exact Ends.next (hm.trans hr) (hT _ kR w' _ D cl' sl (S8.trans iG) yz ho (by rw[aF];exact St.le_refl _))
end
section
variable {ι:Type} {E:dS ι} {L:Nat→Option Obj} {K:Nat→St} {gs:Array Goroutine} {w w':World} {t:Trace} {D:List (ar ι)} {pend d0:Nat} {cl:yX} {sl:Option (Nat×Nat)}
 {Q:Machine→Outcome→World→Trace→Prop} {g g' child:Goroutine} {s ig:St} {es:Array Event}
theorem uQ(f:ar ι→Nat)(D:List (ar ι))(r:ar ι):fx f (D++[r])=fx f D+f r:=by simp[fx]
theorem Inv.spawn(h:Inv E L K gs w t D pend none g 0)(hrw:(K 0).rw=[])(bS:stepG E.P true g w= .spawn g' child w #[])(hle:ig.le (K 0)){r:ar ι}{cl':yX} 
 (hr:r.left=false)(fg:∀t',Deaf t' gs.size=0→nI E t' gs.size ig child r)
 (hn:r.cnt+lT=pend)(h4:r.c4=0)(h3:r.c3=0)(h2:r.c2=0)
 (iG:(cl'=none∧r.early)∨(∃n,cl'=some (D.length,.kd,n)∧r= .closer∧CK.at E ig child n .kd)):
 ∃kR u,runT E.P (crowd gs w sl) 0=(.next (crowd kR w sl),u)∧Inv E L (fL K gs.size ig) kR w (t++u) (D++[r]) lT cl' g' 0∧0 <gs.size:=by
 have uA:=h.base.size
 have bV:=runT_crowd_spawn (P:=E.P) (sl:=sl) (i:=0) h.main (by simpa using bS)
 have e0:MemOp.ofEvents 0 g.frame.fn g.frame.place #[]= #[]:=rfl
 rw[e0] at bV
 generalize hx:({g:=0,fn:=g.frame.fn,pos:=g.frame.place,act:= .go gs.size}:MemOp)=x at bV
 generalize hy:({g:=gs.size,fn:=child.frame.fn,pos:=g.frame.place,act:= .start}:MemOp)=y at bV
 have ex:x.g=0∧x.act= .go gs.size:=by rw[←hx];exact⟨rfl,rfl⟩
 have ey:y.g=gs.size∧y.act= .start:=by rw[←hy];exact⟨rfl,rfl⟩
 have eu:((#[]:Array MemOp).push x).push y= #[x,y]:=rfl
 rw[eu] at bV
 have hq:∀op∈ #[x,y],op.act.touch?=none:=by intro op aB;simp at aB;rcases aB with rfl|rfl<;>simp[ex.2,ey.2,MemAct.touch?]
 have Pq:∀op∈ #[x,y],∀m,op.act≠ .mark m:=by intro op aB;simp at aB;rcases aB with rfl|rfl<;>simp[ex.2,ey.2]
 have hg:∀op∈ #[x,y],op.g=0∨op.g=gs.size:=by intro op aB;simp at aB;rcases aB with rfl|rfl<;>simp[ex.1,ey.1]
 have LP:Deaf t gs.size=0:=ConcN.Deaf_absent fun i op ho e=>by have:=h.base.ops op (mem_of_getElem? ho);omega
 have yy:∀k,Deaf (t++ #[x,y]) k=Deaf t k:=fun k=>fW t k _ Pq
 have aeH:∀p,Knows t 0 p→Knows (t++ #[x,y]) gs.size p:=fun p hp=>ConcN.fork_knows ex ey h.deaf LP hp
 have oW:=h.base.fit.quiet (u:= #[x,y]) (w':=w) E.Ch h.sy.kC h.sy.lC (Nat.le_refl _) (fun _ _ _=>rfl) hq
 have Yu:ig.rw=[]:=by
  obtain⟨R,hR,_⟩:=hle
  rw[hrw] at hR
  have:=List.append_eq_nil_iff.1 (List.nil_perm.1 hR)
  exact this.1
 have zy:∀b o,ig.ro b=some o→(K 0).ro b=some o:=fun b o hb=>by
  obtain⟨R,hR,h2⟩:=hle
  rw[hrw] at hR
  have:=List.append_eq_nil_iff.1 (List.nil_perm.1 hR)
  rcases h2 b o hb with h3|h3
  ·exact h3
  ·rw[this.2] at h3;cases h3
 have aeI:=oW.share (i:=0) (n:=gs.size) (by omega) ig Yu zy fun b hb p z hz hzb hzw=>by
  rcases bF hz with ⟨_,Dg⟩| ⟨_,op,hm,_,hzo⟩
  ·refine aeH p (h.base.fit.qF 0 b ?_ p z Dg hzb hzw)
   cases mo:ig.ro b with
   |none=>exact absurd mo hb
   |some o=>rw[zy b o mo];simp
  ·rw[hq op hm] at hzo;cases hzo
 have HB:∀b,(∀j,¬(K j).knows b)→∀j,¬(fL K gs.size ig j).knows b:=fun b hb j hk=>by
  by_cases e:j=gs.size
  ·subst e;rw[aF] at hk;exact hb 0 (hle.knows hk)
  ·rw[aH _ _ e] at hk;exact hb j hk
 have iT:=h.sy.DF
 have oe:∀ {k z},(D++[r])[k]?=some z→(k <D.length∧D[k]?=some z)∨(k=D.length∧z=r):=fun {k z} hk=>by
  rcases Nat.lt_trichotomy k D.length with cK|e|hgt
  ·rw[List.getElem?_append_left cK] at hk;exact .inl ⟨cK,hk⟩
  ·subst e;rw[List.getElem?_append_right (Nat.le_refl _)] at hk;simp at hk;exact .inr ⟨rfl,hk.symm⟩
  ·rw[List.getElem?_eq_none (by simp;omega)] at hk;cases hk
 have hgs:∀k,k≠0→k <gs.size→((gs.setIfInBounds 0 g').push child)[k]?=gs[k]?:=fun k h0 cK=>by
  rw[Array.getElem?_push_lt (by simpa using cK),←Array.getElem?_eq_getElem,Array.getElem?_setIfInBounds_ne (Ne.symm h0)]
 have hgn:((gs.setIfInBounds 0 g').push child)[gs.size]?=some child:=by
  rw[Array.getElem?_push,if_pos (by simp)]
 refine⟨_,_,bV,⟨⟨aeI,by simp[uA],fun k z hk=>?_,fun k hk b hb=>?_,fun op aB=>?_,h.base.same⟩,
  ⟨HB _ h.sy.kW,HB _ h.sy.kC,h.sy.lW,h.sy.lC,h.sy.ne,fun a=>(h.sy.norel a).app fun op aB=>Pq op aB _,fun j hj p z hz hzb hzk=>?_,?_,?_,?_,h.sy.chan,h.sy.bal,?_⟩,?_,by rw[yy];exact h.deaf⟩,by omega⟩
 ·rcases oe hk with ⟨cK,jD⟩| ⟨rfl,rfl⟩
  ·obtain⟨q,hqk,aO0⟩:=h.base.ok k z jD
   exact⟨q,by rw[hgs _ (by omega) (by omega)];exact hqk,by rw[aH _ _ (by omega)];exact aO0.other fun op aB=>by rcases hg op aB with e|e<;>rw[e]<;>omega⟩
  ·refine⟨child,by rw[←uA];exact hgn,?_⟩
   rw[←uA,aF]
   exact fg _ (by rw[yy];exact LP)
 ·rw[Array.size_push,Array.size_setIfInBounds] at hk
  rw[aH _ _ (by omega)] at hb
  exact h.base.far k (by omega) b hb
 ·rw[Array.size_push,Array.size_setIfInBounds]
  rcases Array.mem_append.1 aB with h'|h'
  ·have:=h.base.ops op h';omega
  ·rcases hg op h' with e|e<;>rw[e]<;>omega
 ·rcases bF hz with ⟨_,Dg⟩| ⟨_,op,hm,_,hzo⟩
  ·rcases hj with rfl| ⟨k,q,rfl,hk,hl⟩
   ·exact(h.sy.plain 0 (.inl rfl) p z Dg hzb hzk).app _
   ·rcases oe hk with ⟨_,jD⟩| ⟨rfl,rfl⟩
    ·exact(h.sy.plain (k+1) (.inr ⟨k,q,rfl,jD,hl⟩) p z Dg hzb hzk).app _
    ·rw[←uA];exact aeH p (h.sy.plain 0 (.inl rfl) p z Dg hzb hzk)
  ·rw[hq op hm] at hzo;cases hzo
 ·have Na:=h.sy.said
  rcases iG with ⟨rfl,_⟩| ⟨n,rfl,_,_⟩
  ·intro p z hz hzb hzk
   rcases bF hz with ⟨_,Dg⟩| ⟨_,op,hm,_,hzo⟩
   ·exact(Na p z Dg hzb hzk).app _
   ·rw[hq op hm] at hzo;cases hzo
  ·intro _ p z hz hzb hzk
   rcases bF hz with ⟨_,Dg⟩| ⟨_,op,hm,_,hzo⟩
   ·rw[←uA];exact aeH p (Na p z Dg hzb hzk)
   ·rw[hq op hm] at hzo;cases hzo
 ·obtain⟨st,sm,ha,mP⟩:=h.sy.cells
  refine⟨st,sm,ha,?_⟩
  rw[uQ,uQ,uQ,uQ,h4,h3,h2,show fx ar.cnt D+r.cnt+lT=fx ar.cnt D+pend by omega]
  rcases iG with ⟨rfl,_⟩| ⟨n,rfl,_,_⟩
  ·exact mP
  ·have z:∀(f:ar ι→Nat),(∀r:ar ι,r.early→f r=0)→fx f D=0:=fun f hf=>by
    unfold fx
    rw[List.sum_eq_zero_iff_forall_eq_nat]
    intro a uk
    obtain⟨q,Hu,rfl⟩:=List.mem_map.1 uk
    exact hf q (iT q Hu)
   have z4:=z ar.c4 fun r hr=>by cases r<;>first|rfl|exact hr.elim
   have z3:=z ar.c3 fun r hr=>by cases r<;>first|rfl|exact hr.elim
   have z2:=z ar.c2 fun r hr=>by cases r<;>first|rfl|exact hr.elim
   obtain⟨rfl,rfl⟩:=mP.opened rfl
   rw[z4,z3,z2]
   exact .kd
 ·rw[uQ];have:=h.sy.Bw;omega
 ·rcases iG with ⟨rfl,QI⟩| ⟨n,rfl,rfl,py⟩
  ·intro z hz
   rcases List.mem_append.1 hz with h'|h'
   ·exact iT z h'
   ·simp at h';subst h';exact QI
  ·refine⟨by simp,fun k hk=>?_,by rw[yy,←uA];exact LP,⟨child,by rw[←uA];exact hgn,by rw[←uA,aF];exact py⟩,fun⟨_,e⟩=>(by cases e)⟩
   rcases oe hk with ⟨_,jD⟩| ⟨e,_⟩
   ·exact(iT _ (List.mem_of_getElem? jD)).elim
   ·exact e
 ·rw[Array.getElem?_push_lt (by simp;omega),←Array.getElem?_eq_getElem,Array.getElem?_setIfInBounds_self_of_lt (by omega)]
theorem IC{os:List ι}{o:ι}(hs:g.status= .running)(hrw:s.rw=[])(bS:∀w,aU s w→stepG E.P true g w= .spawn g' child w #[])(hw:eQ E.P false (E.Iv o) child s)
 (hT:TC E L Q 0 false (os++[o]) 0 g' s):TC E L Q 1 false os 0 g s:=by
 refine wo hs (fun K gs w t D cl sl m iG hI ho hK hm=>?_) fun e=>(by cases e)
 subst hK
 have hcn:cl=none:=by cases cl<;>simp_all
 subst hcn
 obtain⟨tr,ig,hle,htr⟩:=hw
 obtain⟨kR,u,hr,yz,h0⟩:=hI.spawn (sl:=sl) (r:= .work o tr) (cl':=none) (lT:=0) hrw (bS w (hI.base.fit.jI 0)) hle rfl (fun t' hd=>⟨hd,htr⟩) rfl rfl rfl rfl (.inl ⟨rfl,trivial⟩)
 exact Ends.next (hm.trans hr) (hT _ kR w _ _ none sl rfl yz (by simp[ko,List.filterMap_append,ar.U9] at ho ⊢;exact ho) (by rw[aH _ _ (by omega)];exact St.le_refl _))
theorem ID{os:List ι}(hs:g.status= .running)(hrw:s.rw=[])(bS:∀w,aU s w→stepG E.P true g w= .spawn g' child w #[])(hw:E.closes s child)
 (hT:TC E L Q 0 true os 0 g' s):TC E L Q 0 false os 0 g s:=by
 refine wo hs (fun K gs w t D cl sl m iG hI ho hK hm=>?_) fun e=>(by cases e)
 subst hK
 have hcn:cl=none:=by cases cl<;>simp_all
 subst hcn
 obtain⟨n,hn⟩:=hw
 obtain⟨kR,u,hr,yz,h0⟩:=hI.spawn (sl:=sl) (ig:=K 0) (r:= .closer) (cl':=some (D.length,.kd,n)) (lT:=0) hrw (bS w (hI.base.fit.jI 0)) (St.le_refl _) rfl (fun t' hd=>trivial) rfl rfl rfl rfl (.inr ⟨n,rfl,rfl,hn⟩)
 exact Ends.next (hm.trans hr) (hT _ kR w _ _ _ sl rfl yz (by rw[ko,List.filterMap_append];simp only[List.filterMap_cons,ar.U9,List.filterMap_nil,List.append_nil];exact ho) (by rw[aH _ _ (by omega)];exact St.le_refl _))
end
section
variable {ι:Type} {E:dS ι} {Q:Machine→Outcome→World→Trace→Prop} {g:Goroutine} {s s':St}
theorem NF{L:Nat→Option Obj}(hs:g.status= .running)(eg:E.Wg≠E.Ch)
 (hW:(E.Wg,wgBlock E.ty 0 0)∈s.rw)(hC:∃tm,(E.Ch,Obj.chan 0 #[] false 0 0 tm)∈s.rw)
 (hle:s'.le s)(hkW:¬s'.knows E.Wg)(hkC:¬s'.knows E.Ch)(ky:∀b,s'.iQ b→L b=none)
 (hL:∀b o,L b=some o→s.has b o∧b≠E.Wg∧b≠E.Ch)
 (hT:TC E L Q 0 false [] 0 g s'):TL E.P eH (fun _=>none) (Calm E.os E.out) Q g s:=by
 intro K gs w t q sl hLv h0 aPy hd ⟨asw,adS⟩
 have hLv:=hLv.le aPy
 have Yu:(fL K 0 s) 0=s:=aF _ _ _
 have oY:=hLv.fit.jI 0
 rw[Yu] at oY
 obtain⟨tm,hC⟩:=hC
 have hWw:=oY.rw _ _ hW
 have hCw:=oY.rw _ _ hC
 have hex:∀i,i <q.length→∃d,∃x,gs[i+1]?=some x∧QuitsD E.P (q.getD i 0) d x∧Deaf t (i+1)=d∧eH t (i+1):=fun i hi=>by
  obtain⟨x,d,h1,h2,h3,h4⟩:=hLv.ok i _ (List.getElem?_eq_getElem hi)
  exact⟨d,x,h1,by rw[List.getD_eq_getElem?_getD,List.getElem?_eq_getElem hi];exact h2,h3,h4⟩
 let D:List (ar ι):=(List.range q.length).map fun i=>ar.leave (q.getD i 0) (Deaf t (i+1)) false
 have hD:∀i r,D[i]?=some r→i <q.length∧r=ar.leave (q.getD i 0) (Deaf t (i+1)) false:=fun i r hi=>by
  simp only[D,List.getElem?_map] at hi
  obtain⟨j,hj,rfl⟩:=Option.map_eq_some_iff.1 hi
  obtain⟨cK,rfl⟩:=List.getElem?_eq_some_iff.1 hj
  simp only[List.length_range] at cK
  simp only[List.getElem_range]
  exact⟨cK,trivial⟩
 have iS:∀r∈D,∃a b,r=ar.leave a b false:=fun r hr=>by
  obtain⟨i,hi⟩:=List.getElem?_of_mem hr
  exact⟨_,_,(hD i r hi).2⟩
 have hzero:∀f:ar ι→Nat,(∀a b,f (.leave a b false)=0)→fx f D=0:=fun f hf=>by
  unfold fx
  rw[List.sum_eq_zero_iff_forall_eq_nat]
  intro x hx
  obtain⟨r,hr,rfl⟩:=List.mem_map.1 hx
  obtain⟨a,b,rfl⟩:=iS r hr
  exact hf a b
 let K':Nat→St:=fun j=>if j=0 then s' else ⟨fun _=>none,[]⟩
 have Wc:K' 0=s':=by simp[K']
 have hKn:∀j,j≠0→K' j=⟨fun _=>none,[]⟩:=fun j hj=>by simp[K',hj]
 have none:∀j b,j≠0→¬(K' j).knows b:=fun j b hj hk=>by
  rw[hKn j hj] at hk
  rcases hk with hk| ⟨o,ho⟩
  ·exact hk rfl
  ·cases ho
 have Gc:Fit (fun _=>Option.none) K' w t:=hLv.fit.le fun j=>by
  by_cases e:j=0
  ·subst e;rw[Wc,Yu];exact hle
  ·rw[hKn j e];exact⟨(fL K 0 s j).rw,by simp,fun b o hb=>(by cases hb)⟩
 have aeI:Fit L K' w t:=by
  refine⟨fun b o hl=>oY.has (hL b o hl).1,fun i b ho=>?_,Gc.jI,Gc.sep,Gc.perm,Gc.qF,Gc.old,Gc.clean,fun p x b hx hk hb=>⟨?_,(Gc.sync p x b hx hk hb).2⟩⟩
  ·by_cases e:i=0
   ·subst e;rw[Wc] at ho;exact ky b ho
   ·exact absurd (.inr ho) (none i b e)
  ·cases hl:L b with
   |none=>rfl
   |some o=>
    have:=(hLv.fit.sync p x b hx hk hb).2 0
    rw[Yu] at this
    rcases(hL b o hl).1 with h1|h1
    ·exact absurd (.inl (by rw[h1];simp)) this
    ·exact absurd (.inr ⟨o,h1⟩) this
 have hLb:∀b,(b=E.Wg∨b=E.Ch)→L b=Option.none:=fun b hb=>by
  cases hl:L b with
  |none=>rfl
  |some o=>
   rcases hb with e|e
   ·exact absurd e (hL b o hl).2.1
   ·exact absurd e (hL b o hl).2.2
 have hKk:∀b,¬s'.knows b→∀j,¬(K' j).knows b:=fun b hb j=>by
  by_cases e:j=0
  ·subst e;rw[Wc];exact hb
  ·exact none j b e
 have am9:∀p x,touchAt t p=some x→blk x.loc=some E.Wg→Knows t 0 p:=fun p x hx hb=>hLv.fit.perm 0 E.Wg (by rw[Yu];exact⟨_,hW⟩) p x hx hb
 have ayL:∀p x,touchAt t p=some x→E.At x→Knows t 0 p:=fun p x hx hb=>hb.elim (am9 p x hx) fun hb=>hLv.fit.perm 0 E.Ch (by rw[Yu];exact⟨_,hC⟩) p x hx hb
 refine hT K' gs w t D Option.none sl rfl ⟨⟨aeI,by simp[D,hLv.size],fun i r hi=>?_,fun i hi b=>?_,hLv.ops,adS⟩,
  ⟨hKk _ hkW,hKk _ hkC,hLb _ (.inl rfl),hLb _ (.inr rfl),eg,asw,fun j hj p x hx hb _=>?_,fun p x hx hb _=>am9 p x hx hb,⟨0,0,hWw,?_⟩,?_,⟨0,0,tm,hCw⟩,fun a b c hx=>?_,fun r hr=>?_⟩,h0,hd⟩ ?_ (by rw[Wc];exact St.le_refl _)
 ·obtain⟨cK,rfl⟩:=hD i r hi
  obtain⟨d,x,h1,h2,h3,h4⟩:=hex i cK
  exact⟨x,h1,hKn _ (by omega),by rw[h3];exact h2,rfl,(fun e=>(by cases e)),fun _=>h4⟩
 ·exact none i b (by have:=hLv.size;omega)
 ·rcases hj with rfl| ⟨k,r,rfl,hk,hl⟩
  ·exact ayL p x hx hb
  ·obtain⟨_,rfl⟩:=hD k r hk;cases hl
 ·rw[hzero ar.cnt fun _ _=>rfl,hzero ar.c4 fun _ _=>rfl,hzero ar.c3 fun _ _=>rfl,hzero ar.c2 fun _ _=>rfl]
  have:=Md.start (mx:=E.max) (n:=0)
  simpa using this
 ·rw[hzero ar.cnt fun _ _=>rfl];omega
 ·rw[hCw] at hx
  simp only[Option.some.injEq,Obj.chan.injEq] at hx
  omega
 ·obtain⟨a,b,rfl⟩:=iS r hr;rfl
 ·unfold ko
  rw[List.filterMap_eq_nil_iff]
  intro r hr
  obtain⟨a,b,rfl⟩:=iS r hr;rfl
end
theorem Cv(os:Os)(out:Array (Nat×ByteArray)):WZ (Calm os out) where
 grow:=fun _ _ _ _ h hu=>⟨fun a=>(h.1 a).app fun op aB=>hu op aB a,h.2⟩
 drawn:=fun _ _ _ _ h=>h
 le:=fun _ _ _ _ h _=>h
 own:=fun _ _ _ _ _ _ _ h ht hu=>⟨fun a=>(h.1 a).app fun op aB=>hu op aB a,ht.os.trans h.2.1,ht.output.trans h.2.2⟩
def T0(P:Program)(os:Os)(out:Array (Nat×ByteArray))(Post:Value→World→Prop):Goroutine→St→Prop:=TL P eH (fun _=>none) (Calm os out) (Good P Post)
theorem rX(P:Program)(os:Os)(out:Array (Nat×ByteArray))(Post:Value→World→Prop):Closed P true (T0 P os out Post):=Iz CJ (Cv os out) _
theorem Xl{os:Os}{out:Array (Nat×ByteArray)}{Post:Value→World→Prop}{g:Goroutine}(hs:g.status= .running)
 (bS:∀w,aU s w→w.os=os→w.output=out→∃v w' es s',stepG P true g w= .ended (.done v) w' es∧Post v w'∧Trans s w s' w' es):T0 P os out Post g s:=by
 refine J6 CJ (Cv os out) hs fun K gs w t q sl m hL h0 hK hd hi hm hmg=>?_
 subst hK
 obtain⟨v,w',es,s',hgo,hp,ht⟩:=bS w (hL.fit.jI 0) hi.2.1 hi.2.2
 have hr:=ConcN.runT_crowd_ended (P:=P) (sl:=sl) (i:=0) h0 (by simpa using hgo)
 have oW:=hL.fit.own ht g.frame.fn g.frame.place
 generalize hu:MemOp.ofEvents 0 g.frame.fn g.frame.place es=u at hr oW
 have Jq:∀op∈u,op.g=0:=by rw[←hu];exact fun op aB=>Go.ConcR.g_of_ofEvents op aB
 refine⟨0,m,.done v,w',t++u,by simp[runNT,hm,hr],rfl,by simp[step,hm,hr],v,rfl,hp,oW.clean,fun i k hk eg hc=>?_,⟨fun x hx=>?_,by rw[hmg.2];rfl⟩,fun i x hx eg=>?_⟩
 ·obtain⟨op,ho,bcZ⟩:=Option.map_eq_some_iff.1 hk
  cases k with
  |zero=>exact absurd rfl eg
  |succ k=>
   have cK:op.g <gs.size:=by
    rcases Array.mem_append.1 (mem_of_getElem? ho) with h'|h'
    ·exact hL.ops op h'
    ·rw[Jq op h',hL.size];omega
   have hkq:k <q.length:=by have:=hL.size;omega
   obtain⟨_,_,_,_,_,bW⟩:=hL.ok k _ (List.getElem?_eq_getElem hkq)
   exact(bW.other fun op aB=>by rw[Jq op aB];omega) i hk hc
 ·rw[hmg.1] at hx
  obtain⟨j,hj⟩:=List.getElem?_of_mem hx
  rw[List.getElem?_drop,Array.getElem?_toList] at hj
  have hjq:j <q.length:=by have:=lt_size hj;have:=hL.size;omega
  obtain⟨y,d,hy,hq,_⟩:=hL.ok j _ (List.getElem?_eq_getElem hjq)
  rw[Nat.add_comm] at hj
  rw[hj] at hy
  obtain rfl:=Option.some.inj hy
  exact⟨_,hq.leaves⟩
 ·rw[hmg.1] at hx
  cases i with
  |zero=>exact absurd rfl eg
  |succ j=>
   have hjq:j <q.length:=by have:=lt_size hx;have:=hL.size;omega
   obtain⟨y,d,hy,hq,hdd,_⟩:=hL.ok j _ (List.getElem?_eq_getElem hjq)
   rw[hx] at hy
   obtain rfl:=Option.some.inj hy
   refine⟨q[j],?_⟩
   have e:(t++u).deaf (j+1) (t++u).size=d:=by
    have:=gP t u (g:=j+1) fun op aB=>by rw[Jq op aB];omega
    unfold Deaf at this hdd
    rw[this];exact hdd
   rw[e]
   exact hq.hears m.world
theorem aa6{Post:Value→World→Prop}{g:Goroutine}{w:World}(ha:aU s w)(h:T0 P w.os w.output Post g s):Ends P (Good P Post) (solo g w) #[]:=by
 rw[solo_eq_crowd]
 have Hw:∀p x,touchAt #[] p=some x→False:=fun p x hx=>by simp[touchAt,Trace.act?] at hx
 have hn:∀i,i≠0→∀b,¬((if i=0 then s else ⟨fun _=>none,[]⟩:St)).knows b:=fun i hi b hk=>by
  rw[if_neg hi] at hk
  rcases hk with hk| ⟨o,ho⟩
  ·exact hk rfl
  ·cases ho
 refine h (fun j=>if j=0 then s else ⟨fun _=>none,[]⟩) #[g] w #[] [] none ⟨⟨(fun _ _ e=>(by cases e)),fun _ _ _=>rfl,fun i=>?_,fun i j b HA ho hk=>?_,fun _ _ _ p x hx=>(Hw p x hx).elim,fun _ _ _ p x hx=>(Hw p x hx).elim,
  fun p x _ hx=>(Hw p x hx).elim,(fun said ⟨i,j,_,⟨a,b,h1,_⟩,_⟩=>by simp[Trace.act?] at h1),fun p x _ hx=>(Hw p x hx).elim⟩,rfl,fun i n hi=>by simp at hi,fun i b hi hk=>hn i hi b hk,by simp⟩ rfl (by simp only[if_true];exact St.le_refl _) rfl ⟨fun a i=>by simp[Trace.act?],rfl,rfl⟩
 ·by_cases e:i=0
  ·simp only[e,if_true];exact ha
  ·simp only[if_neg e];exact⟨(fun _ _ e=>(by cases e)),(fun _ _ e=>(by cases e)),by simp,(fun _ _ e=>(by cases e))⟩
 ·by_cases e:j=0
  ·exact hn i (fun e'=>HA (e'.trans e.symm)) b (.inr ho)
  ·exact hn j e b hk
section
variable {ι:Type} {E:dS ι} {L:Nat→Option Obj} {pend d0:Nat} {Q:Machine→Outcome→World→Trace→Prop} {g g':Goroutine} {s:St} {os:List ι}
theorem UF(hs:g.status= .running)(bS:∀w,E.live w→stepG E.P true g w= .go g' w #[])(hT:TC E L Q pend false os d0 g' s):TC E L Q pend false os d0 g s:=
 DV (es:= #[]) (lT:=pend) hs rfl (fun w st sm ha hb _=>⟨w,bS w ⟨st,sm,ha⟩,eO.refl w,by obtain⟨rfl,rfl⟩:=hb rfl;exact ha⟩) (by simp) rfl id hT
theorem aiW(hs:g.status= .running)(bS:∀w,E.live w→stepG E.P true g w= .go g' w #[said (.read (smA E.Wg))])(hT:TC E L Q pend false os d0 g' s):TC E L Q pend false os d0 g s:=by
 refine wo hs (fun K gs w t D cl sl m iG hI ho hK hm=>?_) fun e=>(by cases e)
 subst hK
 have hcn:cl=none:=by cases cl<;>simp_all
 subst hcn
 obtain⟨st,sm,ha,_⟩:=hI.sy.cells
 have hgo:=bS w ⟨st,sm,ha⟩
 have e1:MemOp.ofEvents 0 g.frame.fn g.frame.place #[said (.read (smA E.Wg))]= #[{g:=0,fn:=g.frame.fn,pos:=g.frame.place,act:= .mark (.read (smA E.Wg))}]:=by rw[ofEvents_eq];simp[said,Go.ConcR.ofEvent_mk]
 have asp:∀op∈MemOp.ofEvents 0 g.frame.fn g.frame.place #[said (.read (smA E.Wg))],op.g=0∧op.act= .mark (.read (smA E.Wg)):=by
  rw[e1];intro op aB;simp only[List.mem_toArray,List.mem_singleton] at aB;subst aB;exact⟨rfl,rfl⟩
 have htc:∀op∈MemOp.ofEvents 0 g.frame.fn g.frame.place #[said (.read (smA E.Wg))],∀x,op.act.touch?=some x→x=⟨.cell (smA E.Wg),false,.said⟩:=fun op aB x hx=>by
  rw[(asp op aB).2] at hx;simp only[MemAct.touch?,Option.some.injEq] at hx;exact hx.symm
 obtain⟨kR,u,cl',hr,yz,S8⟩:=hI.go0 (sl:=sl) (s':=K 0) (lT:=pend) hgo ⟨rfl,rfl⟩ (hI.sy.kW 0) (hI.sy.kC 0) rfl (by
  rw[lQ]
  refine hI.base.fit.beside E.Wg 0 hI.sy.kW hI.sy.lW (lt_size ha) (Nat.le_refl _) (fun _ _ _=>rfl) (fun op aB=>(asp op aB).1) fun op aB x hx=>?_
  obtain rfl:=htc op aB x hx
  refine⟨rfl,fun sd p a uk hc=>?_⟩
  have hl:blk a.loc=some E.Wg:=by rw[hc.1];rfl
  rcases hc.2.2.2 with h3|h3|h3
  ·exact hI.sy.plain 0 (.inl rfl) p a uk (.inl hl) h3
  ·cases h3
  ·exact hI.sy.said p a uk hl h3.2.1)
  (fun op aB x hx _=>by obtain rfl:=htc op aB x hx;exact⟨by simp,fun _=>rfl⟩) (fun op aB a=>by rw[(asp op aB).2];simp) (hI.G0 rfl) hI.sy.Bw
 exact Ends.next (hm.trans hr) (hT _ kR w _ D cl' sl (S8.trans iG) yz ho (by rw[aF];exact St.le_refl _))
end
abbrev J0:=Option Value×Option Value
abbrev jh:J0:=(none,none)
def G2:J0→Nat→Option Value
 | (a,_),0=>a
 | (_,b),1=>b
 |_,_=>none
theorem Qh(off:Nat):G2 jh off=none:=by
 match off with
 |0=>rfl
 |1=>rfl
 |_+2=>rfl
def MA:J0→Nat→Value→J0
 | (_,b),0,v=>(some v,b)
 | (a,_),1,v=>(a,some v)
 |c,_,_=>c
inductive RH(α:Type) where
 |ok (a:α)
 |halt (h:Halt)
structure VO(α:Type) where
 r:RH α
 ws:List (Nat×Value)
 es:List Event
 bs:List Nat
def uv(P:Program)(ty:TypeId):Sem α→J0→Option (VO α)
 | .pure a,_=>some ⟨.ok a,[],[],[]⟩
 | .load m a k,c=>match a.spot with
  |some _=>none
  |none=>match G2 c a.off with
   |some v=>match uv P ty (k v) c with
    |some o=>some ⟨o.r,o.ws,⟨.cell a,false,m== .atomic⟩::o.es,a.block::o.bs⟩
    |none=>none
   |none=>none
 | .store m a v k,c=>match a.spot with
  |some _=>none
  |none=>bif single v then (match G2 c a.off with
   |some _=>match uv P ty k (MA c a.off v) with
    |some o=>some ⟨o.r,(a.off,v)::o.ws,⟨.cell a,true,m== .atomic⟩::o.es,a.block::o.bs⟩
    |none=>none
   |none=>none) else none
 | .shape r k,c=>match uv P ty (k (some (ty,2))) c with
  |some o=>some ⟨o.r,o.ws,o.es,r::o.bs⟩
  |none=>none
 | .frozen a k,c=>match uv P ty (k false) c with
  |some o=>some ⟨o.r,o.ws,o.es,a.block::o.bs⟩
  |none=>none
 | .program k,c=>uv P ty (k P) c
 | .mark m k,c=>match uv P ty k c with
  |some o=>some ⟨o.r,o.ws,⟨.mark m,false,true⟩::o.es,o.bs⟩
  |none=>none
 | .halt h,_=>some ⟨.halt h,[],[],[]⟩
 |_,_=>none
def me(ty:TypeId)(W:Nat)(w:World)(c:J0):Prop:=∃a b,w.heap[W]?=some (.cells #[a,b] ty)∧(∀x,c.1=some x→a=x)∧∀x,c.2=some x→b=x
theorem me.abg{w:World}{c:J0}(h:me ty W w c):∃a b,w.heap[W]?=some (.cells #[a,b] ty):=by
 obtain⟨a,b,h,_⟩:=h
 exact⟨a,b,h⟩
def KH(W:Nat)(w:World)(ws:List (Nat×Value)):World:=ws.foldl (fun w x=>w.setCell ⟨W,x.1,none⟩ x.2) w
def RH.to(w:World):RH α→Result α
 | .ok a=> .ok a w
 | .halt h=> .halt h w
theorem G1{w:World}{c:J0}(h:me ty W w c){v:Value}(hv:G2 c off=some v):w.cell? ⟨W,off,none⟩=some v:=by
 obtain⟨p,q,h,h1,h2⟩:=h
 unfold G2 at hv
 split at hv<;>try (cases hv;done)
 ·rw[←h1 _ hv];simp[World.cell?,h]
 ·rw[←h2 _ hv];simp[World.cell?,h]
theorem Ze{w:World}{c:J0}(h:me ty W w c){u v:Value}(hv:G2 c off=some u):me ty W (w.setCell ⟨W,off,none⟩ v) (MA c off v):=by
 obtain⟨p,q,h,h1,h2⟩:=h
 unfold G2 at hv
 split at hv<;>try (cases hv;done)
 ·exact⟨v,q,by simp[World.setCell,Array.getElem?_modify,h],by simp[MA],fun x hx=>h2 x hx⟩
 ·exact⟨p,v,by simp[World.setCell,Array.getElem?_modify,h],fun x hx=>h1 x hx,by simp[MA]⟩
theorem aaV{w:World}{a b:Value}(h:w.heap[W]?=some (.cells #[a,b] ty)) (off:Nat) (s:Option Nat):w.frozen? ⟨W,off,s⟩=false:=by
 simp[World.frozen?,h]
theorem Kg(x:Sem α):∀ {c:J0} {o:VO α} {w:World} (es:Array Event),uv P ty x c=some o→(∀b∈o.bs,b=W)→((c=jh∧o.bs=[])∨me ty W w c)→x.runT P w es=(o.r.to (KH W w o.ws),es++o.es.toArray):=by
 induction x with
 |pure a=>intro c o w es h hb hc;simp only[uv,Option.some.injEq] at h;subst h;simp[Sem.runT,RH.to,KH]
 |halt a=>intro c o w es h hb hc;simp only[uv,Option.some.injEq] at h;subst h;simp[Sem.runT,RH.to,KH]
 |load m a k ih=>
  intro c o w es h hb hc
  simp only[uv] at h
  split at h<;>try (cases h;done)
  rename_i hs
  split at h<;>try (cases h;done)
  rename_i v hv
  split at h<;>try (cases h;done)
  rename_i o1 h1
  simp only[Option.some.injEq] at h;subst h
  have e:a=⟨W,a.off,none⟩:=by
   have:=hb a.block (by simp)
   rcases a with ⟨x,y,z⟩
   simp only at hs this
   subst hs this;rfl
  have sC:me ty W w c:=hc.elim (fun hh=>by rw[hh.1] at hv;rw[Qh] at hv;cases hv) id
  have Gi:w.cell? a=some v:=by rw[e];exact G1 sC hv
  simp only[Sem.runT,Gi]
  rw[ih v _ h1 (fun b hm=>hb b (by simp[hm])) (.inr sC)]
  simp
 |store m a v k ih=>
  intro c o w es h hb hc
  simp only[uv] at h
  split at h<;>try (cases h;done)
  rename_i hs
  cases hsg:single v with
  |false=>rw[hsg] at h;cases h
  |true=>
  rw[hsg] at h;simp only[cond_true] at h
  split at h<;>try (cases h;done)
  rename_i u hu
  split at h<;>try (cases h;done)
  rename_i o1 h1
  simp only[Option.some.injEq] at h;subst h
  have e:a=⟨W,a.off,none⟩:=by
   have:=hb a.block (by simp)
   rcases a with ⟨x,y,z⟩
   simp only at hs this
   subst hs this;rfl
  have sC:me ty W w c:=hc.elim (fun hh=>by rw[hh.1] at hu;rw[Qh] at hu;cases hu) id
  have Gi:w.cell? a=some u:=by rw[e];exact G1 sC hu
  have hfz:w.frozen? a=false:=by
   obtain⟨p,q,VS⟩:=sC.abg
   rw[e];exact aaV VS _ _
  have oI:=Ze (v:=v) sC hu
  have key:(Sem.store m a v k).runT P w es=k.runT P (w.setCell a v) (es.push ⟨.cell a,true,m== .atomic⟩):=by
   cases v<;>first| (cases hsg;done)|simp[Sem.runT,Gi,hfz]
  rw[key,ih _ h1 (fun b hm=>hb b (by simp[hm])) (.inr (by rw[e];exact oI))]
  simp only[KH,List.foldl_cons]
  rw[←e]
  simp
 |shape r k ih=>
  intro c o w es h hb hc
  simp only[uv] at h
  split at h<;>try (cases h;done)
  rename_i o1 h1
  simp only[Option.some.injEq] at h;subst h
  have e:r=W:=hb r (by simp)
  have sC:me ty W w c:=hc.elim (fun hh=>by cases hh.2) id
  have hsh:w.shape? r=some (ty,2):=by
   obtain⟨p,q,VS⟩:=sC.abg
   rw[e];simp[World.shape?,VS]
  simp only[Sem.runT,hsh]
  exact ih _ _ h1 (fun b hm=>hb b (by simp[hm])) (.inr sC)
 |frozen a k ih=>
  intro c o w es h hb hc
  simp only[uv] at h
  split at h<;>try (cases h;done)
  rename_i o1 h1
  simp only[Option.some.injEq] at h;subst h
  have e:a.block=W:=hb a.block (by simp)
  have sC:me ty W w c:=hc.elim (fun hh=>by cases hh.2) id
  have hsh:w.frozen? a=false:=by
   obtain⟨p,q,VS⟩:=sC.abg
   rcases a with ⟨x,y,z⟩
   simp only at e;subst e;exact aaV VS _ _
  simp only[Sem.runT,hsh]
  exact ih _ _ h1 (fun b hm=>hb b (by simp[hm])) (.inr sC)
 |program k ih=>
  intro c o w es h hb hc
  simp only[uv] at h
  simp only[Sem.runT]
  exact ih _ _ h hb hc
 |mark m k ih=>
  intro c o w es h hb hc
  simp only[uv] at h
  split at h<;>try (cases h;done)
  rename_i o1 h1
  simp only[Option.some.injEq] at h;subst h
  simp only[Sem.runT]
  rw[ih _ h1 (fun b hm=>hb b hm) hc]
  simp
 |new o k ih=>intro c o w es h;cases h
 |freeze a n k ih=>intro c o w es h;cases h
 |getObj r k ih=>intro c o w es h;cases h
 |setObj r o k ih=>intro c o w es h;cases h
 |choose q k ih=>intro c o w es h;cases h
 |sys q k ih=>intro c o w es h;cases h
def auJ(fr:Frame):Option Frame:=
 match fr.todo with
 | []=>match fr.roundOf with
  |none=>some {fr with mode:= .returning}
  |some _=>none
 | .code .ret::_=>match fr.roundOf with
  |none=>some {fr with mode:= .returning}
  |some _=>none
 | .code .skip::k=>some {fr with todo:=k}
 | .code (.label _)::k=>some {fr with todo:=k}
 | .inBlock _::k=>some {fr with todo:=k}
 | .inScope _::k=>some {fr with todo:=k}
 | .code (.seq a b)::k=>some {fr with todo:= .code a:: .code b::k}
 | .code (.cond c x y)::k=>match fr.eval c with
  | .bool b=>some {fr with todo:= .code (if b then x else y)::k}
  |_=>none
 | .code (.block id body)::k=>some {fr with todo:= .code body:: .inBlock id::k}
 | .code (.loop body)::k=>some {fr with todo:= .code body:: .inLoop body::k}
 | .inLoop body::k=>some {fr with todo:= .code body:: .inLoop body::k}
 | .code (.scope body)::k=>some {fr with todo:= .code body:: .inScope body::k}
 | .code (.exit id)::k=>match exitTo id k with
  |some k'=>some {fr with todo:=k'}
  |none=>none
 | .code (.region _ ops false)::k=>some {fr with todo:= .inRegion ops (List.range ops.size)::k}
 | .inRegion _ []::k=>some {fr with todo:=k}
 | .inRegion ops (i::_)::_=>if ((ops[i]?).map (Region.wanted · (yielded ops fr.tmps))).getD false then none else some (fr.finish undef)
 |_=>none
theorem alL{main:Bool}{fr nD:Frame}{cs:List Frame}(hm:fr.mode= .run)(h:auJ fr=some nD)(w:World):stepG P main (G fr cs) w= .go (G nD cs) w #[]:=by
 rcases fr with ⟨fn,tmps,todo,defers,mode,kind,ro⟩
 simp only at hm;subst hm
 unfold auJ at h
 simp only at h
 split at h
 all_goals try (cases h;done)
 all_goals try (simp only[Option.some.injEq] at h;subst h;simp[G,stepG,stepG.exec];done)
 ·split at h<;>try (cases h;done)
  simp only[Option.some.injEq] at h;subst h;simp[G,stepG,stepG.exec]
 ·split at h<;>try (cases h;done)
  simp only[Option.some.injEq] at h;subst h;simp[G,stepG,stepG.exec]
 ·split at h<;>try (cases h;done)
  rename_i b hb
  simp only[Option.some.injEq] at h;subst h
  simp only[G,stepG,stepG.exec,hb]
 ·split at h<;>try (cases h;done)
  rename_i b hb
  simp only[Option.some.injEq] at h;subst h
  simp[G,stepG,stepG.exec,hb]
 ·split at h<;>try (cases h;done)
  rename_i hw
  simp only[Option.some.injEq] at h;subst h
  simp only[G,stepG,stepG.exec,hw]
  simp
inductive OV where
 |go (fr:Frame) (iq:List Frame)
 |ret (v:Value)
 |apT
 |block
abbrev OVs:=Option (OV×List (Nat×Value)×List Event×List Nat)
def ug(P:Program)(fn:FuncId)(es:List Event):List Event:=(seen P fn es.toArray).toList
def VH:CallKind→Bool
 | .early=>true
 |_=>false
def ace(P:Program)(ty:TypeId)(c:J0)(fr:Frame)(iq:List Frame):OVs:=
 match fr.todo with
 | .inRegion ops (i::_)::_=>bif ((ops[i]?).map (Region.wanted · (yielded ops fr.tmps))).getD false&& !(VH fr.kind) then (match fr.roundOf,fr.oper? with
  |none,some o=>match uv P ty (execOp fr.eval o) c with
   |some ⟨.ok (.value v),ws,es,bs⟩=>some (.go (fr.finish v) iq,ws,ug P fr.fn es,bs)
   |some ⟨.ok .skip,ws,es,bs⟩=>some (.go (fr.finish undef) iq,ws,ug P fr.fn es,bs)
   |some ⟨.ok (.enter f args),ws,es,bs⟩=>some (.go (Frame.enter P f args .normal) (fr::iq),ws,ug P fr.fn es,bs)
   |some ⟨.ok (.defer d),ws,es,bs⟩=>some (.go ({fr with defers:=d::fr.defers}.finish undef) iq,ws,ug P fr.fn es,bs)
   |some ⟨.halt .blocked,ws,_,bs⟩=>some (.block,ws,[],bs)
   |_=>none
  |_,_=>none) else none
 |_=>none
def azJ:Target→Bool
 | .fn .. =>true
 |_=>false
def apl(P:Program)(ty:TypeId)(c:J0)(fr:Frame)(iq:List Frame):OVs:=
 match fr.defers with
 | []=>match P.funcs[fr.fn]? with
  |some fn=>match uv P ty (results fn fr.tmps) c with
   |some ⟨.ok v,ws,es,bs⟩=>match iq with
    |q::gi=>match fr.kind with
     | .normal=>some (.go (q.finish v) gi,ws,ug P fr.fn es,bs)
     | .deferred=>match q.mode with
      | .returning=>some (.go q gi,ws,ug P fr.fn es,bs)
      |_=>none
     |_=>none
    | []=>match fr.kind with
     | .normal=>some (.ret v,ws,ug P fr.fn es,bs)
     | .deferred=>some (.apT,ws,ug P fr.fn es,bs)
     |_=>none
   |_=>none
  |none=>none
 |d::ds=>bif azJ d.target then (match uv P ty (invoke d.target d.args) c with
  |some ⟨.ok (.value _),ws,es,bs⟩=>some (.go {fr with defers:=ds} iq,ws,ug P fr.fn es,bs)
  |some ⟨.ok (.enter f args),ws,es,bs⟩=>some (.go (Frame.enter P f args .deferred) ({fr with defers:=ds}::iq),ws,ug P fr.fn es,bs)
  |_=>none) else none
def Ow(P:Program)(ty:TypeId)(c:J0)(fr:Frame)(iq:List Frame):OVs:=
 match fr.mode with
 | .run=>match auJ fr with
  |some nD=>some (.go nD iq,[],[],[])
  |none=>ace P ty c fr iq
 | .returning=>apl P ty c fr iq
 |_=>none
def OV.is(P:Program)(main:Bool)(g:Goroutine)(w w':World)(es:Array Event)(cs:List Frame):OV→Prop
 | .go fr iq=>stepG P main g w= .go (G fr (iq++cs)) w' es
 | .ret v=>(∀c HK,cs=c::HK→stepG P main g w= .go (G (c.finish v) HK) w' es)
 | .apT=>(∀c HK,cs=c::HK→(c.mode= .returning∨∃ch,c.mode= .panicking [⟨ch,false,true⟩])→stepG P main g w= .go (G c HK) w' es)
 | .block=>stepG P main g w= .go {g with status:= .blocked} w' es
end Go.L
