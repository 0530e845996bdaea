/- Part 5 of the proof: a program logic, contracts, a theorem on goroutines. -/
import Derived.Test.YtjpghiajlddegaaGreatDoorL4
import Derived.Conc.CrowdStepC
set_option maxRecDepth 100000
set_option linter.all false
namespace Go.L
open Go Go.Conc
open Go.ConcR (KK wgBlock WgAt stA smA rd wr)
variable {ty:TypeId} {P:Program} {z:Value} {W lD off pc:Nat} {s s':St} {b:Bool} {α:Type}
section
variable {ι:Type} {E:dK ι} {L:Nat→Option Obj} {K:Nat→St} {gs:Array Goroutine} {w:World} {t:Trace} {D:List (ak ι)} {d0:Nat} {main:Goroutine} {sl:Option (Nat×Nat)}
 {ic n:Nat} {g:Goroutine}
def G0(E:dK ι)(pc:Nat)(K:Nat→St)(w:World)(t:Trace):Prop:=
 (∃sn tm,w.heap[E.Ch]?=some (.chan 0 #[] true sn sn tm))∧¬(K 0).knows E.Ch∧t.act? pc=some (.close E.Ch)∧t.heard pc∧(∀a,NoRelease a t)∧w.os=E.os∧w.output=E.out
theorem Gf(E:dK ι)(pc:Nat):V8 (G0 E pc) where
 grow:=fun K w t u h hu=>⟨h.1,h.2.1,by rw[act?_old (lt_of_act? h.2.2.1)];exact h.2.2.1,(heard_old (lt_of_act? h.2.2.1)).2 h.2.2.2.1,fun a=>(h.2.2.2.2.1 a).app fun op ax=>hu op ax a,h.2.2.2.2.2⟩
 drawn:=fun K w t d h=>h
 le:=fun K w t s h hl=>⟨h.1,by rw[aB];exact fun hk=>h.2.1 (hl.knows hk),h.2.2⟩
 own:=fun K w t s' w' es u h ht hu=>by
  obtain⟨⟨sn,tm,hc⟩,hk,ha,hh,hn,Oa⟩:=h
  have cz:=lt_size hc
  refine⟨⟨sn,tm,by rw[ht.frame _ cz fun ho=>hk (.inr ho)];exact hc⟩,?_,by rw[act?_old (lt_of_act? ha)];exact ha,(heard_old (lt_of_act? ha)).2 hh,fun a=>(hn a).app fun op ax=>hu op ax a,ht.os.trans Oa.1,ht.output.trans Oa.2⟩
  rw[aB]
  rintro(h'|h')
  ·rcases ht.JJ _ h' with h1|h1|h1
   ·omega
   ·exact hk (.inl h1)
   ·exact hk (.inr h1)
  ·rcases ht.own _ h' with h1|h1
   ·omega
   ·exact hk (.inr h1)
theorem WC{r:ak ι}(h1:r.cnt=0)(h4:r.c4=0)(h3:r.c3=0)(h2:r.c2=0)(hc:r≠ .closer):∃q d c,r= .leave q d c:=by
 cases r with
 |leave q d c=>exact⟨q,d,c,rfl⟩
 |closer=>exact absurd rfl hc
 |st k n=>cases k<;>simp[ak.cnt,ak.c4,ak.c3,ak.c2] at h1 h4 h3 h2
 |_=>exact absurd h1 (by simp[ak.cnt])
theorem AcqAll.known(hA:AcqAll E t D ic)(hn:NoRelease (stA E.Wg) t){u:Trace}(hpc:t.size≤pc){y:MemOp}(hy:(t++u)[pc]?=some y) (hyg:y.g=ic+1) {i:Nat} {r:ak ι} (hi:D[i]?=some r) (hc:r.cur=true)
 {p:Nat} (hp:t.g? p=some (i+1)) (hct:t.counts p):HappensBefore (t++u) p pc:=by
 obtain⟨q,h1,h2,h3,h4⟩:=hA
 obtain⟨x,hx,hxq⟩:=h4 i r hi hc
 have hq:=lt_of_act? h1
 have hqg:=h2
 obtain⟨oq,hoq,hgq⟩:=Option.map_eq_some_iff.1 h2
 have Yd:HappensBefore t x q:= .single (.inr ⟨.marked hxq (.inr hx.act) h1 (fun k _ _=>hn k),hx.heard,h3⟩)
 have last:HappensBefore (t++u) q pc:=hb_po (by omega) (by rw[getElem?_append_old hq];exact hoq) hy (hgq.trans hyg.symm)
 have hle:p≤x:=Nat.le_of_not_lt fun cz=>hx.after p cz hp hct
 rcases Nat.lt_or_ge p x with cz|OB
 ·exact((hb_app u (.trans (.single (.inl ⟨cz,_,hp,hx.g⟩)) Yd)).trans last)
 ·obtain rfl:p=x:=by omega
  exact(hb_app u Yd).trans last
def abM(qc:Nat):ak ι→Nat
 | .leave q _ _=>q
 |_=>qc
theorem Inv.close(h:Inv E L K gs w t D 0 (some (ic,.run .leaf,n)) main d0){main':Goroutine}(hm:∀(a a':Goroutine) (w':World),mayWake E.P a=true→(a'.status= .running∨a'.status= .finished)→(∃sn tm,w'.heap[E.Ch]?=some (.chan 0 #[] true sn sn tm))→woken E.P a a' w' main=main')
 (hg:gs[ic+1]?=some g):
 ∃kK w' u q,runT E.P (crowd gs w sl) (ic+1)=(.next (crowd kK w' sl),u)∧Lv E.P (iJ (t.size+1)) L (fun j=>if j=0 then K 0 else ⟨fun _=>none,[]⟩) kK w' (t++u) q∧kK[0]?=some main'∧Deaf (t++u) 0=d0∧
  G0 E (t.size+1) (fun j=>if j=0 then K 0 else ⟨fun _=>none,[]⟩) w' (t++u)∧j5 D=[]:=by
 obtain⟨hic,FG,yq,⟨gc,D7,pf⟩,Sr⟩:=h.sy.Dw
 obtain rfl:gc=g:=by rw[hg] at D7;exact(Option.some.inj D7).symm
 obtain⟨st,sm,ha,mC⟩:=h.sy.cells
 obtain⟨e1,e4,e3,e2,rfl,rfl⟩:=mC.run rfl trivial
 obtain⟨_,hs,hmw,g',bL,q,hq⟩:=pf
 obtain⟨sn,rc,tm,hc⟩:=h.sy.chan
 have ar4:=h.sy.bal _ _ _ hc
 subst ar4
 have hA:=Sr ⟨_,rfl⟩
 have cz:=(List.getElem?_eq_some_iff.1 hic).1
 have RS:∀k r,D[k]?=some r→k≠ic→∃q d c,r= .leave q d c:=fun k r hk dP=>by
  refine WC ?_ ?_ ?_ ?_ fun e=>dP (FG k (e▸hk))
  ·have:=tG ak.cnt hk;omega
  ·have:=tG ak.c4 hk;omega
  ·have:=tG ak.c3 hk;omega
  ·have:=tG ak.c2 hk;omega
 have gq:=bL w sn sn tm hc
 have bN:=runT_crowd_go (P:=E.P) (sl:=sl) (i:=ic+1) hg (by simpa using gq)
 have q1:MemOp.ofEvents (ic+1) gc.frame.fn gc.frame.place #[⟨.obj E.Ch,false,true⟩,⟨.obj E.Ch,true,true⟩]= #[{g:=ic+1,fn:=gc.frame.fn,pos:=gc.frame.place,act:= .access ⟨.obj E.Ch,false,true⟩},{g:=ic+1,fn:=gc.frame.fn,pos:=gc.frame.place,act:= .close E.Ch}]:=by rw[ofEvents_eq];simp[MemAct.ofEvent]
 rw[q1] at bN
 generalize hu:(#[{g:=ic+1,fn:=gc.frame.fn,pos:=gc.frame.place,act:= .access ⟨.obj E.Ch,false,true⟩},{g:=ic+1,fn:=gc.frame.fn,pos:=gc.frame.place,act:= .close E.Ch}]:Trace)=u at bN
 have IW:∀op∈u,op.g=ic+1∧(op.act= .access ⟨.obj E.Ch,false,true⟩∨op.act= .close E.Ch):=by rw[←hu];intro op ax;simp at ax;rcases ax with rfl|rfl<;>simp
 have Va:∀op∈u,∀x,op.act.touch?=some x→x=⟨.obj E.Ch,false,.atomic⟩:=fun op ax x hx=>by
  rcases(IW op ax).2 with e|e<;>rw[e] at hx
  ·simp only[MemAct.touch?,if_true,Option.some.injEq] at hx;exact hx.symm
  ·cases hx
 have Ot:∀op∈u,∀m,op.act≠ .mark m:=fun op ax m=>by rcases(IW op ax).2 with e|e<;>rw[e]<;>simp
 have aDb:E.Ch <w.heap.size:=lt_size hc
 have sA:(w.heap.setIfInBounds E.Ch (.chan 0 #[] true sn sn tm))[E.Ch]?=some (.chan 0 #[] true sn sn tm):=by simp[aDb]
 have hpc:(t++u)[t.size+1]?=some {g:=ic+1,fn:=gc.frame.fn,pos:=gc.frame.place,act:= .close E.Ch}:=by rw[←hu];simp
 have hle:∀j,((fun j=>if j=0 then K 0 else ⟨fun _=>none,[]⟩) j:St).le (K j):=fun j=>by
  by_cases e:j=0
  ·subst e;exact St.le_refl _
  ·simp only[if_neg e];exact⟨(K j).rw,by simp,fun b o hb=>(by cases hb)⟩
 have aOM:∀x:Goroutine,(x.status= .running∨x.status= .finished)→woken E.P gc g' {w with heap:=w.heap.setIfInBounds E.Ch (.chan 0 #[] true sn sn tm)} x=x:=fun x hx=>by
  unfold Go.Conc.woken
  split
  ·exact again_running _ hx
  ·rfl
 have j8:∀i r,D[i]?=some r→i≠ic→iJ (t.size+1) (t++u) (i+1):=fun i r hi dP=>by
  obtain⟨x,hx,eZ⟩:=h.base.ok i r hi
  obtain⟨qq,d,c,rfl⟩:=RS i r hi dP
  refine⟨by rw[←hu];simp,?_⟩
  cases c with
  |false=>exact .inl ((eZ.2.2.2.2 rfl).other fun op ax=>by rw[(IW op ax).1];omega)
  |true=>
   refine .inr fun p hp hct=>?_
   obtain⟨op,ho,hgo⟩:=Option.map_eq_some_iff.1 hp
   rcases getElem?_append_cases ho with ⟨RV,_⟩| ⟨_,iE⟩
   ·exact hA.known (h.sy.norel _) (Nat.le_succ _) hpc rfl hi rfl (by rw[←g?_old (u:=u) RV];exact hp) ((counts_old RV).1 hct)
   ·rw[(IW op iE).1] at hgo;omega
 refine⟨_,_,u,D.map (abM q),bN,⟨?_,by simp[h.base.size],fun k x hk=>?_,fun i b hi hk=>?_,fun op ax=>?_⟩,?_,?_,⟨⟨sn,tm,sA⟩,h.sy.kC 0,?_,?_,fun a=>(h.sy.norel a).app fun op ax=>Ot op ax _,h.base.same.1,h.base.same.2⟩,?_⟩
 ·refine(h.base.fit.beside E.Ch (ic+1) h.sy.kC h.sy.lC aDb (by simp) (fun b hb _=>by simp[Ne.symm hb]) (fun op ax=>(IW op ax).1) fun op ax x hx=>?_).le hle
  obtain rfl:=Va op ax x hx
  refine⟨rfl,fun sd p a uk hc=>h.sy.plain _ (.inr ⟨ic,_,rfl,hic,rfl⟩) p a uk (.inr (by rw[hc.1];rfl)) ?_⟩
  rcases hc.2.2.2 with h3|h3|h3
  ·exact h3
  ·cases h3
  ·cases h3.2.2
 ·rw[List.getElem?_map] at hk
  obtain⟨r,hr,rfl⟩:=Option.map_eq_some_iff.1 hk
  by_cases dP:k=ic
  ·subst dP
   rw[hic] at hr
   cases hr
   refine⟨g',0,by simp[h.base.size,cz],hq,by rw[fO _ _ _ Ot];exact yq,by rw[←hu];simp,.inr fun p hp hct=>?_⟩
   obtain⟨op,ho,hgo⟩:=Option.map_eq_some_iff.1 hp
   rcases Nat.lt_or_ge p (t.size+1) with RV|OB
   ·exact hb_po RV ho hpc hgo
   ·have hpe:p=t.size+1:=by
     have:=lt_size ho
     rw[←hu] at this
     simp at this
     omega
    subst hpe
    obtain⟨y,hy,_⟩:=hct
    obtain⟨o',DZ,kJ⟩:=touch_of hy
    rw[hpc] at DZ;cases DZ
    cases kJ
  ·obtain⟨x,hx,eZ⟩:=h.base.ok k r hr
   have bP:=j8 k r hr dP
   obtain⟨qq,d,c,rfl⟩:=RS k r hr dP
   exact⟨x,d,by rw[fQ (by omega) hx,aOM x eZ.2.1.status],eZ.2.1,by rw[fO _ _ _ Ot];exact eZ.2.2.1,bP⟩
 ·simp only[if_neg hi] at hk
  rcases hk with hk| ⟨o,ho⟩
  ·exact hk rfl
  ·cases ho
 ·rw[Array.size_setIfInBounds,Array.size_map]
  rcases Array.mem_append.1 ax with h'|h'
  ·exact h.base.ops op h'
  ·rw[(IW op h').1,h.base.size];omega
 ·rw[fQ (by omega) h.main,hm _ _ _ hmw hq.status ⟨sn,tm,sA⟩]
 ·rw[fO _ _ _ Ot];exact h.deaf
 ·rw[act?_of hpc]
 ·refine⟨ic+1,by simp[Trace.g?,hpc],?_⟩
  have e2:t++u=(t++ #[({g:=ic+1,fn:=gc.frame.fn,pos:=gc.frame.place,act:= .access ⟨.obj E.Ch,false,true⟩}:MemOp)])++ #[({g:=ic+1,fn:=gc.frame.fn,pos:=gc.frame.place,act:= .close E.Ch}:MemOp)]:=by rw[←hu,Array.append_assoc];rfl
  have e3:=fO t (ic+1) #[({g:=ic+1,fn:=gc.frame.fn,pos:=gc.frame.place,act:= .access ⟨.obj E.Ch,false,true⟩}:MemOp)] (by intro op ax m;simp only[List.mem_toArray,List.mem_singleton] at ax;subst ax;simp)
  rw[e2,deaf_old (by simp)]
  unfold Deaf at e3 yq
  rw[Array.size_append] at e3
  exact e3.trans yq
 ·unfold j5
  rw[List.filterMap_eq_nil_iff]
  intro r hr
  obtain⟨k,hk⟩:=List.getElem?_of_mem hr
  by_cases dP:k=ic
  ·subst dP;rw[hic] at hk;cases hk;rfl
  ·obtain⟨qq,d,c,rfl⟩:=RS k r hk dP;rfl
end
section
variable {ι:Type} {E:dK ι} {L:Nat→Option Obj} {K:Nat→St} {gs:Array Goroutine} {w w':World} {t u:Trace} {D:List (ak ι)} {pend d0:Nat} {cl:yQ} {main:Goroutine} {sl:Option (Nat×Nat)}
 {i:Nat} {g g':Goroutine} {es:Array Event}
def PLt(mx:Nat):List (ak ι)×yQ→List (ak ι)×yQ→Prop:=Prod.Lex (One tW) (InvImage DC (mP mx))
theorem PLt.wf(mx:Nat):WellFounded (PLt (ι:=ι) mx):=(Prod.lex ⟨_,One.wf tW.wf⟩ ⟨_,InvImage.wf (mP mx) DC.wf⟩).wf
theorem Inv.other(h:Inv E L K gs w t D pend cl main d0)(hm:gx E main)(hg:gs[i+1]?=some g) (hs:g.status= .running) (FR:D[i]?≠some (.back .leaf)) (Cq:∀n,cl≠some (i,.run .leaf,n))
 (hw:(∃o,D[i]?=some (.work o .leaf))→main.status= .running):
 ∃K' kK w' u D' cl',runT E.P (crowd gs w sl) (i+1)=(.next (crowd kK w' sl),u)∧Inv E L K' kK w' (t++u) D' pend cl' main d0∧K' 0=K 0∧j5 D'=j5 D∧cl'.isSome=cl.isSome∧PLt E.max (D',cl') (D,cl)∧∀o,ak.gp o∈D'→ak.gp o∈D∨main.status= .running:=by
 have cz:i <D.length:=by have:=lt_size hg;have:=h.base.size;omega
 have hD:D[i]?=some D[i]:=List.getElem?_eq_getElem cz
 have fin:ql E L K D pend cl main d0 (crowd gs w sl) sl t (i+1)→
  ∃K' kK w' u D' cl',runT E.P (crowd gs w sl) (i+1)=(.next (crowd kK w' sl),u)∧Inv E L K' kK w' (t++u) D' pend cl' main d0∧K' 0=K 0∧j5 D'=j5 D∧cl'.isSome=cl.isSome∧PLt E.max (D',cl') (D,cl)∧∀o,ak.gp o∈D'→ak.gp o∈D∨main.status= .running:=by
  rintro⟨K',kK,w',u,D',cl',h1,h2,h3,h4,h5,h6,h7,h8⟩
  refine⟨K',kK,w',u,D',cl',h1,h2,h3,h4,?_,Prod.Lex.left _ _ h5,h8⟩
  cases hc:cl with
  |none=>rw[h6 hc]
  |some x=>have:=h7 (by rw[hc];simp);cases cl'<;>simp_all
 obtain⟨x,hx,eZ⟩:=h.base.ok i _ hD
 obtain rfl:x=g:=by rw[hg] at hx;exact(Option.some.inj hx).symm
 generalize hr:D[i]=r at hD eZ
 match r,hD,eZ with
 | .leave q d c,hD,eZ=>exact fin (h.leave hm hD hg hs)
 | .work o (.node f),hD,eZ=>exact fin (h.work hm hD hg)
 | .work o .leaf,hD,eZ=>exact fin (h.Ww (hw ⟨o,hD⟩) hD hg)
 | .gp o,hD,⟨_,uC,p5,v,zs,X,Y,e,_⟩=>rw[e] at hs;cases hs
 | .back (.node f),hD,eZ=>exact fin (h.back hm hD hg)
 | .back .leaf,hD,eZ=>exact absurd hD FR
 | .st k (n+1),hD,eZ=>exact fin (h.aoi hm hD hg)
 | .st .r0 0,hD,eZ=>exact fin (h.r0 hm hD hg)
 | .st .k1 0,hD,eZ=>exact fin (h.k1 hm hD hg)
 | .st .d1 0,hD,eZ=>exact fin (h.d1 hm hD hg)
 | .st .d2 0,hD,eZ=>exact fin (h.d2 hm hD hg)
 | .st .d3 0,hD,eZ=>exact fin (h.d3 hm hD hg)
 | .st .d4 0,hD,eZ=>exact fin (h.d4 hm hD hg)
 | .closer,hD,eZ=>
  have iF:=h.sy.Dw
  match cl,h,iF,Cq with
  |none,h,iF,_=>exact(iF _ (List.mem_of_getElem? hD)).elim
  |some (ic,c,n),h,⟨_,hu,_,_,_⟩,Cq=>
   have e:=hu i hD
   subst e
   obtain⟨K',kK,w',u,c',n',h1,h2,h3,h4⟩:=h.closer (sl:=sl) hm hg hs fun e=>Cq n (by rw[e])
   exact⟨K',kK,w',u,D,_,h1,h2,h3,rfl,rfl,Prod.Lex.right _ h4,fun _ h=> .inl h⟩
theorem Inv.awake(h:Inv E L K gs w t D pend cl main d0)(hm:gx E main):∀x∈gs,Go.Conc.awake x:=by
 intro x hx
 obtain⟨j,hj,rfl⟩:=Array.mem_iff_getElem.1 hx
 have hj':gs[j]?=some gs[j]:=Array.getElem?_eq_getElem hj
 intro k
 cases j with
 |zero=>
  rw[h.main] at hj'
  rw[←Option.some.inj hj']
  rcases hm with e| ⟨m,z,rfl⟩
  ·rw[e];simp
  ·simp[parked]
 |succ j=>
  have cz:j <D.length:=by have:=h.base.size;omega
  have hD:D[j]?=some D[j]:=List.getElem?_eq_getElem cz
  obtain⟨y,hy,eZ⟩:=h.base.ok j _ hD
  rw[hj'] at hy
  rw[Option.some.inj hy]
  by_cases hb:∃o,D[j]= .gp o
  ·obtain⟨o,e⟩:=hb
   rw[e] at eZ
   obtain⟨_,uC,p5,v,zs,X,Y,rfl,_⟩:=eZ
   simp[parked]
  ·by_cases hc:D[j]= .closer
   ·have iF:=h.sy.Dw
    match cl,iF with
    |none,iF=>
     have:=iF D[j] (List.mem_of_getElem? hD)
     rw[hc] at this
     exact this.elim
    |some (ic,c,n),⟨_,h2,_,⟨gc,D7,pf⟩,_⟩=>
     have e:=h2 j (by rw[hD,hc])
     subst e
     rw[hj',hy] at D7
     obtain rfl:=Option.some.inj D7
     by_cases adS:c= .blk
     ·subst adS
      obtain⟨_,uC,amo,e⟩:=pf
      rw[e];simp
     ·rw[CK.tV pf adS];simp
   ·rcases eZ.running (fun o e=>hb ⟨o,e⟩) hc with e|e<;>rw[e]<;>simp
theorem Inv.le0(h:Inv E L K gs w t D pend cl main d0)(hl:s.le (K 0)):Inv E L (fD K 0 s) gs w t D pend cl main d0:=by
 have hle:∀j,(fD K 0 s j).le (K j):=fun j=>by
  by_cases e:j=0
  ·subst e;rw[aB];exact hl
  ·rw[aD _ _ e];exact St.le_refl _
 refine⟨⟨h.base.fit.le hle,h.base.size,fun k r hk=>?_,fun k hk b hb=>h.base.far k hk b ((hle k).knows hb),h.base.ops,h.base.same⟩,
  ⟨fun j hj=>h.sy.kW j ((hle j).knows hj),fun j hj=>h.sy.kC j ((hle j).knows hj),h.sy.lW,h.sy.lC,h.sy.ne,h.sy.norel,h.sy.plain,h.sy.said,h.sy.cells,h.sy.Bm,h.sy.chan,h.sy.bal,?_⟩,h.main,h.deaf⟩
 ·rw[aD _ _ (by omega)];exact h.base.ok k r hk
 ·have iF:=h.sy.Dw
  match cl,iF with
  |none,iF=>exact iF
  |some (ic,c,n),⟨h1,h2,h3,⟨gc,D7,pf⟩,h5⟩=>exact⟨h1,h2,h3,⟨gc,D7,by rw[aD _ _ (by omega)];exact pf⟩,h5⟩
def TC(E:dK ι)(L:Nat→Option Obj)(Q:Machine→Outcome→World→Trace→Prop)(pend:Nat)(b:Bool)(os:List ι)(d0:Nat)(g:Goroutine)(s:St):Prop:=
 ∀K gs w t D cl sl,cl.isSome=b→Inv E L K gs w t D pend cl g d0→j5 D=os→s.le (K 0)→Ends E.P Q (crowd gs w sl) t
theorem wq{Q:Machine→Outcome→World→Trace→Prop}{os:List ι}(hs:g.status= .running)
 (h:∀K gs w t D cl sl m,cl.isSome=b→Inv E L K gs w t D pend cl g d0→j5 D=os→K 0=s→stepT E.P m=runT E.P (crowd gs w sl) 0→Ends E.P Q m t)
 (ir:b=true→pend=0∧d0=0∧(os=[]→∀pc,TL E.P (iJ pc) L (G0 E pc) Q g s)):TC E L Q pend b os d0 g s:=by
 intro K gs w t D cl sl hb hI ho hle
 have key:∀μ:List (ak ι)×yQ,∀K gs w t sl,μ.2.isSome=b→Inv E L K gs w t μ.1 pend μ.2 g d0→j5 μ.1=os→K 0=s→Ends E.P Q (crowd gs w sl) t:=by
  intro μ
  induction μ using (PLt.wf E.max).induction with
  |_ μ ih=>
   obtain⟨D,cl⟩:=μ
   intro K gs w t sl hb hI ho hK
   simp only at hb hI ho
   obtain⟨i,eV,d,PO,cU,FH,bL⟩:=crowd_pick (P:=E.P) (gs:=gs) (w:=w) (sl:=sl) (hI.awake (.inl hs)) ⟨0,g,hI.main,hs⟩
   have yu:=hI.at d
   cases i with
   |zero=>exact h K gs _ t D cl PO _ hb yu ho hK bL
   |succ i=>
    by_cases Vr:D[i]?=some (.back .leaf)
    ·obtain⟨n,h1,h2,h3⟩:=hI.norm Vr
     exact ih (_,cl) (Prod.Lex.left _ _ h3) _ gs w t sl hb h1 (h2.trans ho) (by rw[aD _ _ (by omega)];exact hK)
    ·by_cases hc:∃n,cl=some (i,.run .leaf,n)
     ·obtain⟨n,e⟩:=hc
      subst e
      obtain⟨hp,hd,hT⟩:=ir (by rw[←hb];rfl)
      subst hp
      obtain⟨kK,w',u,q,hr,hL,h0,hdd,hG,sU⟩:=yu.close (sl:=PO) (main':=g) (fun a a' w' _ _ _=>by
       unfold Go.Conc.woken
       split
       ·exact again_running _ (.inl hs)
       ·rfl) cU
      exact Ends.next (bL.trans hr) (hT (ho.symm.trans sU) (t.size+1) _ kK w' _ q PO hL h0 (by simp only[if_true];rw[hK];exact St.le_refl _) (by rw[hdd];exact hd) hG)
     ·obtain⟨K',kK,w',u,D',cl',hr,KV,mo,G6,fU,cz,_⟩:=yu.other (sl:=PO) (.inl hs) cU FH Vr (fun n e=>hc ⟨n,e⟩) (fun _=>hs)
      exact Ends.next (bL.trans hr) (ih (D',cl') cz K' kK w' _ PO (fU.trans hb) KV (G6.trans ho) (mo.trans hK))
 exact key (D,cl) _ gs w t sl hb (hI.le0 hle) ho (aB _ _ _)
end
section
variable {ι:Type} {E:dK ι} {L:Nat→Option Obj} {Q:Machine→Outcome→World→Trace→Prop} {g:Goroutine} {s:St}
theorem TH(Sv:L E.Ch=none){x:Goroutine}(hx:x.status= .running)(bL:∀w,aP s w→stepG E.P true x w= .comm g #[rcase E.Ch z] true (.recv true) w #[])
 (mG:∀w,aP s w→(∀b o,L b=some o→w.heap[b]?=some o)→aP s' w) (yN:∀b,s'.knows b→L b≠none∨s.knows b)
 (hT:TL E.P eg (fun _=>none) (Calm E.os E.out) Q (Conc.served g (.tuple #[z,.bool false])) s'):TL E.P (iJ pc) L (G0 E pc) Q x s:=by
 refine JB (OW pc) (Gf E pc) hx fun K gs w t q sl m hL h0 hK hd hG hm _=>?_
 subst hK
 obtain⟨⟨sn,tm,hc⟩,hkC,aj2,arw,azk,acI⟩:=hG
 have IY:partners (gs.setIfInBounds 0 ph) E.Ch true=[]:=partners_nil fun j y hy=>by
  rcases getElem?_stand gs _ _ _ hy with ⟨_,rfl⟩| ⟨hj,PW⟩
  ·exact offersAt_ph _ _
  ·cases j with
   |zero=>exact absurd rfl hj
   |succ j=>
    have cz:j <q.length:=by have:=lt_size PW;have:=hL.size;omega
    obtain⟨y',d,hy2,hq,_⟩:=hL.ok j _ (List.getElem?_eq_getElem cz)
    rw[PW] at hy2
    rw[Option.some.inj hy2]
    exact qH hq.status _ _
 have bN:=crowd_recv_closed (sl:=sl) h0 (by simpa using bL w (hL.fit.ju 0)) hc IY
 have e0:MemOp.ofEvents 0 x.frame.fn x.frame.place #[]= #[]:=rfl
 rw[e0,Array.empty_append] at bN
 generalize hu:(#[{g:=0,fn:=g.frame.fn,pos:=g.frame.place,act:= .recvClosed E.Ch}]:Trace)=u at bN
 have IW:∀op∈u,op.g=0∧op.act= .recvClosed E.Ch:=by rw[←hu];intro op ax;simp at ax;subst ax;exact⟨rfl,rfl⟩
 have Va:∀op∈u,op.act.touch?=none:=fun op ax=>by rw[(IW op ax).2];rfl
 have Ot:∀op∈u,∀m,op.act≠ .mark m:=fun op ax m=>by rw[(IW op ax).2];simp
 have hr:(t++u)[t.size]?=some {g:=0,fn:=g.frame.fn,pos:=g.frame.place,act:= .recvClosed E.Ch}:=by rw[←hu];simp
 have amd:=lt_of_act? aj2
 have Yd:HappensBefore (t++u) pc t.size:= .single (.inr ⟨.closed (c:=E.Ch) (by rw[act?_old amd];exact aj2) (by rw[act?_of hr]),(heard_old amd).2 arw,⟨0,by simp[Trace.g?,hr],by rw[deaf_old (Nat.le_refl _)];exact hd⟩⟩)
 have cX:∀i n,q[i]?=some n→eg (t++u) (i+1):=fun i n hi=>by
  obtain⟨y,d,hy,hq,hdd,hk⟩:=hL.ok i n hi
  rcases hk.2 with hk|hk
  ·exact hk.quiet Va
  ·intro p hp hct
   obtain⟨op,ho,hgo⟩:=Option.map_eq_some_iff.1 hp
   rcases getElem?_append_cases ho with ⟨RV,_⟩| ⟨_,iE⟩
   ·exact⟨t.size,by simp[Trace.g?,hr],(hb_app u (hk p (by rw[←g?_old (u:=u) RV];exact hp) ((counts_old RV).1 hct))).trans Yd⟩
   ·rw[(IW op iE).1] at hgo;omega
 have oP:=hL.fit.quiet (u:=u) (w':=w) E.Ch (fun j=>by
  by_cases e:j=0
  ·subst e;exact hkC
  ·exact hL.none j _ e) Sv (Nat.le_refl _) (fun _ _ _=>rfl) Va
 refine Ends.next (hm.trans bN) (hT (fD K 0 s') _ w _ q sl ⟨?_,by simp[hL.size],fun i n hi=>?_,fun i b hi hk=>?_,fun op ax=>?_⟩ ?_ (by rw[aB];exact St.le_refl _) (by rw[fO _ _ _ Ot];exact hd) ⟨fun a=>(azk a).app fun op ax=>Ot op ax _,acI⟩)
 ·refine oP.alone (i:=0) (fun j hj b=>hL.none j b hj) s' (mG w (hL.fit.ju 0) hL.fit.C8) yN fun b hb p y hy PY hyb=>?_
  obtain⟨op,ho,hyo⟩:=touch_of hy
  have cz:op.g <gs.size:=by
   rcases Array.mem_append.1 (mem_of_getElem? ho) with h'|h'
   ·exact hL.ops op h'
   ·rw[(IW op h').1,hL.size];omega
  cases hgo:op.g with
  |zero=>have:=knows_own ho;rwa[hgo] at this
  |succ k=>
   have hk:k <q.length:=by have:=hL.size;omega
   obtain⟨j,hj,lU⟩:=cX k _ (List.getElem?_eq_getElem hk) p (by simp[Trace.g?,ho,hgo]) ⟨y,by simpa [touchAt] using hy,by cases hl:y.loc<;>simp_all[blk,Loc.isMemory],.inl (by rw[PY];simp)⟩
   obtain⟨z',Da,hzg⟩:=Option.map_eq_some_iff.1 hj
   exact⟨j,z',Da,hzg,.inr lU⟩
 ·obtain⟨y,d,hy,hq,hdd,hk⟩:=hL.ok i n hi
  exact⟨y,d,by rw[Array.getElem?_setIfInBounds_ne (by omega)];exact hy,hq,by rw[fO _ _ _ Ot];exact hdd,cX i n hi⟩
 ·rw[aD _ _ hi] at hk;exact hL.none i b hi hk
 ·rw[Array.size_setIfInBounds]
  rcases Array.mem_append.1 ax with h'|h'
  ·exact hL.ops op h'
  ·rw[(IW op h').1,hL.size];omega
 ·have:0 <gs.size:=by rw[hL.size];omega
  simp[this,finishComm_recv,recvd]
end
section
variable {ι:Type} {E:dK ι} {L:Nat→Option Obj} {K:Nat→St} {gs:Array Goroutine} {w w':World} {t:Trace} {D:List (ak ι)} {pend d0:Nat} {cl:yQ} {main:Goroutine} {sl:Option (Nat×Nat)}
 {i:Nat} {Q:Machine→Outcome→World→Trace→Prop} {g:Goroutine} {s:St}
theorem setChan_at(w:World)(d c:Nat)(h:c <w.heap.size)(sn rc:Nat)(tm:Bool):
 ((w.at d).setChan c 0 #[] false sn rc tm).heap[c]?=some (.chan 0 #[] false sn rc tm)∧((w.at d).setChan c 0 #[] false sn rc tm).heap.size=w.heap.size∧
 ∀b,b≠c→((w.at d).setChan c 0 #[] false sn rc tm).heap[b]?=w.heap[b]?:=by
 refine⟨by simp[World.setChan,World.at,h],by simp[World.setChan,World.at],fun b hb=>by simp[World.setChan,World.at,Ne.symm hb]⟩
theorem Inv.alive(h:Inv E L K gs w t D 0 cl main d0)(ir:cl≠none)(hn:∀o,ak.gp o∉D):∃(i:Nat) (x:Goroutine),gs[i]?=some x∧x.status= .running:=by
 by_cases cX:∀r∈D,r.left=true∨r= .closer
 ·have iF:=h.sy.Dw
  obtain⟨st,sm,_,mC⟩:=h.sy.cells
  match cl,iF,mC,ir with
  |some (ic,c,n),⟨_,_,_,⟨gc,D7,pf⟩,_⟩,mC,_=>
   refine⟨_,gc,D7,CK.tV pf fun e=>?_⟩
   subst e
   have z:∀(f:ak ι→Nat),(∀q d c,f (.leave q d c)=0)→f .closer=0→e8 f D=0:=fun f h1 h2=>by
    unfold e8
    rw[List.sum_eq_zero_iff_forall_eq_nat]
    intro x hx
    obtain⟨r,hr,rfl⟩:=List.mem_map.1 hx
    rcases cX r hr with e|rfl
    ·cases r<;>first|exact h1 _ _ _|cases e
    ·exact h2
   have z1:=z ak.cnt (fun _ _ _=>rfl) rfl
   have z4:=z ak.c4 (fun _ _ _=>rfl) rfl
   have z3:=z ak.c3 (fun _ _ _=>rfl) rfl
   have z2:=z ak.c2 (fun _ _ _=>rfl) rfl
   rw[z1,z4,z3,z2] at mC
   simp only[Option.map_some] at mC
   generalize ho:some CK.blk=o at mC
   generalize h0:0+0=k at mC
   cases mC with
   |reg _ h2=>omega
   |sema _ h2=>cases ho;exact h2 rfl
   |over h1=>cases ho;exact h1.elim
   |_=>cases ho
 ·obtain⟨r,lh⟩:=Classical.not_forall.1 cX
  obtain⟨hr,Cu⟩:=Classical.not_imp.1 lh
  have h1:¬r.left=true:=fun e=>Cu (.inl e)
  have h2:r≠ .closer:=fun e=>Cu (.inr e)
  obtain⟨k,hk⟩:=List.getElem?_of_mem hr
  obtain⟨x,hx,eZ⟩:=h.base.ok k r hk
  refine⟨_,x,hx,?_⟩
  cases r with
  |leave q d c=>exact absurd rfl h1
  |work o tr=>exact n8.running (fun _ _ y=>y.1) eZ.2
  |gp o=>exact absurd hr (hn o)
  |back tr=>exact n8.running (fun _ _ y=>dK.pure.running (fun _ z=>z.1) y) eZ.2
  |st k n=>exact Pure.running (WK.running k) eZ.2.2.1
  |closer=>exact absurd rfl h2
theorem Inv.Wx(h:Inv E L K gs w t D pend cl (parked g #[rcase E.Ch z] (.recv true)) 0)(ir:cl≠none){o:ι}{gw:Goroutine}(hi:D[i]?=some (.work o .leaf)) (hg:gs[i+1]?=some gw):
 ∃K' kK w' u D' v X a b,runT E.P (crowd gs w sl) (i+1)=(.next (crowd kK w' sl),u)∧Inv E L K' kK w' (t++u) D' pend cl (Conc.served g (.tuple #[v,.bool true])) 0∧K' 0=⟨(K 0).ro,X++(K 0).rw⟩∧
  E.To o v X∧j5 D=a++o::b∧j5 D'=a++b:=by
 obtain⟨eV,cU,eZ⟩:=h.base.ok i _ hi
 obtain rfl:eV=gw:=by rw[hg] at cU;exact(Option.some.inj cU).symm
 obtain⟨hd,hs,p5,v,zs,X,Y,hXY,nT,bL,tr,gP,hle,xA⟩:=eZ
 obtain⟨sn,rc,tm,hc⟩:=h.sy.chan
 have uz:=h.base.size
 have aNP:partners (gs.setIfInBounds (i+1) ph) E.Ch false=[(0,0)]:=by
  have h0:(gs.setIfInBounds (i+1) ph)[0]?=some (parked g #[rcase E.Ch z] (.recv true)):=stand_get (by omega) h.main
  rw[partners_one h0 fun k x hk hx=>?_]
  ·rw[offersAt_parked_recv];simp
  ·rcases getElem?_stand gs _ _ _ hx with ⟨_,rfl⟩| ⟨_,kJ⟩
   ·exact offersAt_ph _ _
   ·cases k with
    |zero=>exact absurd rfl hk
    |succ k=>
     rcases h.offers kJ with ⟨o',g',v',zs',_,rfl⟩|hn
     ·exact offersAt_parked_send' _ _ _ _ _ _
     ·exact hn _ _
 have bN:=crowd_send_meets (sl:=sl) hg (by simpa using bL w (h.base.fit.ju _)) hc (by omega) h.main aNP
 have e0:MemOp.ofEvents (i+1) eV.frame.fn eV.frame.place #[]= #[]:=rfl
 rw[e0,Array.empty_append] at bN
 obtain⟨a,b,ha,hb⟩:=Be (r':=ak.back tr) rfl hi (o:=o) rfl
 have hwc:=setChan_at w w.drawn E.Ch (lt_size hc) (sn+1) (rc+1) tm
 refine⟨_,_,_,_,_,v,X,a,b,bN,h.meet ir hi (.inl rfl) hd hXY hle xA (by simp) ?_ ?_ (fun k h1 h2=>?_) hc hwc.1 hwc.2.1 hwc.2.2 ⟨rfl,rfl⟩ ⟨rfl,rfl⟩ ⟨rfl,rfl⟩ ⟨rfl,rfl⟩ ⟨rfl,rfl⟩,aB _ _ _,nT,ha,hb⟩
 ·rw[Array.getElem?_setIfInBounds_ne (by omega),Array.getElem?_setIfInBounds_self_of_lt (by omega)]
  rw[finishComm_recv];rfl
 ·rw[Array.getElem?_setIfInBounds_self_of_lt (by have:=lt_size hg;simpa using this)]
  rw[finishComm_send]
 ·rw[Array.getElem?_setIfInBounds_ne (Ne.symm h2),Array.getElem?_setIfInBounds_ne (Ne.symm h1)]
theorem Ns{os:List ι}
 (IZ:∀a o b v X,os=a++o::b→E.To o v X→TC E L Q 0 true (a++b) 0 (Conc.served g (.tuple #[v,.bool true])) ⟨s.ro,X++s.rw⟩)
 (pY:os=[]→∀pc,TL E.P (iJ pc) L (G0 E pc) Q {parked g #[rcase E.Ch z] (.recv true) with status:= .running} s):
 ∀(μ:List (ak ι)×yQ) K gs w t sl,μ.2.isSome=true→Inv E L K gs w t μ.1 0 μ.2 (parked g #[rcase E.Ch z] (.recv true)) 0→j5 μ.1=os→K 0=s→(∀o,ak.gp o∉μ.1)→Ends E.P Q (crowd gs w sl) t:=by
 intro μ
 induction μ using (PLt.wf E.max).induction with
 |_ μ ih=>
  obtain⟨D,cl⟩:=μ
  intro K gs w t sl hb hI ho hK hn
  simp only at hb hI ho hn
  have ir:cl≠none:=fun e=>by rw[e] at hb;cases hb
  have Oq:gx E (parked g #[rcase E.Ch z] (.recv true)):= .inr ⟨g,z,rfl⟩
  obtain⟨i,eV,d,PO,cU,FH,bL⟩:=crowd_pick (P:=E.P) (gs:=gs) (w:=w) (sl:=sl) (hI.awake Oq) (hI.alive ir hn)
  have yu:=hI.at d
  cases i with
  |zero=>rw[hI.main] at cU;rw[←Option.some.inj cU] at FH;cases FH
  |succ i=>
   by_cases Vr:D[i]?=some (.back .leaf)
   ·obtain⟨n,h1,h2,h3⟩:=hI.norm Vr
    refine ih (_,cl) (Prod.Lex.left _ _ h3) _ gs w t sl hb h1 (h2.trans ho) (by rw[aD _ _ (by omega)];exact hK) fun o hm=>?_
    rcases List.mem_or_eq_of_mem_set hm with h'|h'
    ·exact hn o h'
    ·cases h'
   ·by_cases hc:∃n,cl=some (i,.run .leaf,n)
    ·obtain⟨n,e⟩:=hc
     subst e
     obtain⟨kK,w',u,q,hr,hL,h0,hdd,hG,sU⟩:=yu.close (sl:=PO) (main':={parked g #[rcase E.Ch z] (.recv true) with status:= .running}) (fun a a' w' hmw mG ⟨sn,tm,sA⟩=>by
      have:(mayWake E.P a&&a'.status != .blocked&&a'.status != .waiting)=true:=by rcases mG with e|e<;>simp[hmw,e]
      unfold Go.Conc.woken
      rw[if_pos this]
      exact again_recv_closed sA) cU
     exact Ends.next (bL.trans hr) (pY (ho.symm.trans sU) (t.size+1) _ kK w' _ q PO hL h0 (by simp only[if_true];rw[hK];exact St.le_refl _) (by rw[hdd]) hG)
    ·by_cases Df:∃o,D[i]?=some (.work o .leaf)
     ·obtain⟨o,hi⟩:=Df
      obtain⟨K',kK,w',u,D',v,X,a,b,hr,KV,mo,nT,ha,lU⟩:=yu.Wx (sl:=PO) ir hi cU
      refine Ends.next (bL.trans hr) (IZ a o b v X (ho.symm.trans ha) nT K' kK w' _ D' cl PO hb KV lU ?_)
      rw[mo,hK];exact St.le_refl _
     ·obtain⟨K',kK,w',u,D',cl',hr,KV,mo,G6,fU,cz,Xy⟩:=yu.other (sl:=PO) Oq cU FH Vr (fun n e=>hc ⟨n,e⟩) (fun hx=>absurd hx Df)
      refine Ends.next (bL.trans hr) (ih (D',cl') cz K' kK w' _ PO (fU.trans hb) KV (G6.trans ho) (mo.trans hK) fun o hm=>?_)
      rcases Xy o hm with h'|h'
      ·exact hn o h'
      ·cases h'
theorem TO{os:List ι}(hs:g.status= .running)(bL:∀w,aP s w→stepG E.P true g w= .comm g #[rcase E.Ch z] true (.recv true) w #[])
 (IZ:∀a o b v X,os=a++o::b→E.To o v X→TC E L Q 0 true (a++b) 0 (Conc.served g (.tuple #[v,.bool true])) ⟨s.ro,X++s.rw⟩)
 (pY:os=[]→∀pc,TL E.P (iJ pc) L (G0 E pc) Q g s∧TL E.P (iJ pc) L (G0 E pc) Q {parked g #[rcase E.Ch z] (.recv true) with status:= .running} s):TC E L Q 0 true os 0 g s:=by
 refine wq hs (fun K gs w t D cl sl m hb hI ho hK hm=>?_) fun _=>⟨rfl,rfl,fun h pc=>(pY h pc).1⟩
 have ir:cl≠none:=fun e=>by rw[e] at hb;cases hb
 obtain⟨sn,rc,tm,hc⟩:=hI.sy.chan
 have hgo:=bL w (hK▸hI.base.fit.ju 0)
 have e0:MemOp.ofEvents 0 g.frame.fn g.frame.place #[]= #[]:=rfl
 by_cases dP:partners (gs.setIfInBounds 0 ph) E.Ch true=[]
 ·have bN:=crowd_waits (sl:=sl) hI.main (by simpa using hgo) (fun cc uj=>by
   simp only[List.mem_toArray,List.mem_singleton] at uj
   subst uj
   exact ways_recv_none hc dP)
  rw[e0] at bN
  have uz:=hI.base.size
  refine Ends.next (hm.trans bN) (Ns IZ (fun h pc=>(pY h pc).2) (D,cl) K _ w _ sl hb ⟨⟨?_,by simp[uz],fun k r hk=>?_,fun k hk=>hI.base.far k (by simpa using hk),fun op ax=>?_,hI.base.same⟩,?_,?_,?_⟩ ho hK fun o hm=>?_)
  ·rw[Array.append_empty];exact hI.base.fit
  ·obtain⟨x,hx,eZ⟩:=hI.base.ok k r hk
   exact⟨x,by rw[Array.getElem?_setIfInBounds_ne (by omega)];exact hx,by rw[Array.append_empty];exact eZ⟩
  ·rw[Array.append_empty] at ax;rw[Array.size_setIfInBounds];exact hI.base.ops op ax
  ·rw[Array.append_empty]
   refine⟨hI.sy.kW,hI.sy.kC,hI.sy.lW,hI.sy.lC,hI.sy.ne,hI.sy.norel,hI.sy.plain,hI.sy.said,hI.sy.cells,hI.sy.Bm,hI.sy.chan,hI.sy.bal,?_⟩
   have iF:=hI.sy.Dw
   match cl,iF with
   |none,iF=>exact iF
   |some (ic,c,n),⟨h1,h2,h3,⟨gc,D7,pf⟩,h5⟩=>exact⟨h1,h2,h3,⟨gc,by rw[Array.getElem?_setIfInBounds_ne (by omega)];exact D7,pf⟩,h5⟩
  ·rw[Array.getElem?_setIfInBounds_self_of_lt (by omega)]
  ·rw[Array.append_empty];exact hI.deaf
  ·obtain⟨k,hk⟩:=List.getElem?_of_mem hm
   obtain⟨x,hx,_,uC,p5,v,zs,X,Y,rfl,_⟩:=hI.base.ok k _ hk
   have:((k+1,0):Nat×Nat)∈partners (gs.setIfInBounds 0 ph) E.Ch true:=mem_partners.2 ⟨_,stand_get (by omega) hx,by rw[offersAt_parked_send];simp⟩
   rw[dP] at this;cases this
 ·obtain⟨j,gj,vj,zj,shj,d,hj0,hj,bN⟩:=crowd_recv_meets_some (sl:=sl) hI.main (by simpa using hgo) hc dP fun j k Mn=>by
   obtain⟨x,hx,hk⟩:=mem_partners.1 Mn
   rcases getElem?_stand gs _ _ _ hx with ⟨_,rfl⟩| ⟨hj0,kJ⟩
   ·rw[offersAt_ph] at hk;cases hk
   ·cases j with
    |zero=>exact absurd rfl hj0
    |succ j=>
     rcases hI.offers kJ with ⟨o',g',v',zs',_,rfl⟩|hn
     ·rw[offersAt_parked_send] at hk
      simp at hk
      exact⟨hk,by omega,_,_,_,_,kJ⟩
     ·rw[hn] at hk;cases hk
  rw[e0,Array.empty_append] at bN
  cases j with
  |zero=>exact absurd rfl hj0
  |succ i=>
   rcases hI.offers hj with ⟨o,p5,v,zs,hi,e⟩|hn
   ·obtain⟨x,hx,yq,uC,aDk,v',zs',X,Y,e',hXY,nT,_,tr,gP,hle,xA⟩:=hI.base.ok i _ hi
    obtain rfl:x=parked gj #[scase E.Ch vj zj] shj:=by rw[hj] at hx;exact(Option.some.inj hx).symm
    have hv:vj=v':=by
     have:=congrArg Goroutine.offers e'
     simp only[parked,scase,Option.some.injEq,Prod.mk.injEq,Array.mk.injEq,List.cons.injEq,CommCase.mk.injEq] at this
     exact this.1.1.2.1
    have hsv:gj.finishComm E.P #[scase E.Ch vj zj] shj 0 undef false=Conc.served aDk undef:=by
     have h1:shj= .send:=by
      have:=congrArg Goroutine.offers e'
      simp only[parked,Option.some.injEq,Prod.mk.injEq] at this
      exact this.2
     subst h1
     rw[finishComm_send]
     have h2:=congrArg (fun x:Goroutine=>Conc.served x undef) e'
     exact h2
    subst hv
    obtain⟨a,b,ha,lU⟩:=Be (r':=ak.back tr) rfl hi (o:=o) rfl
    have hwc:=setChan_at w d E.Ch (lt_size hc) (sn+1) (rc+1) tm
    have uz:=hI.base.size
    refine Ends.next (hm.trans bN) (IZ a o b vj X (ho.symm.trans ha) nT _ _ _ _ (D.set i (.back tr)) cl sl hb
     (hI.meet ir hi (.inr rfl) yq hXY hle xA (by simp) ?_ ?_ (fun k h1 h2=>?_) hc hwc.1 hwc.2.1 hwc.2.2 ⟨rfl,rfl⟩ ⟨rfl,rfl⟩ ⟨rfl,rfl⟩ ⟨rfl,rfl⟩ ⟨rfl,rfl⟩) lU ?_)
    ·rw[Array.getElem?_setIfInBounds_self_of_lt (by simp;omega),finishComm_recv];rfl
    ·rw[Array.getElem?_setIfInBounds_ne (by omega),Array.getElem?_setIfInBounds_self_of_lt (lt_size hj),hsv]
    ·rw[Array.getElem?_setIfInBounds_ne (Ne.symm h1),Array.getElem?_setIfInBounds_ne (Ne.symm h2)]
    ·rw[aB,hK];exact St.le_refl _
   ·have:(0:Nat)∈offersAt (parked gj #[scase E.Ch vj zj] shj) E.Ch true:=by rw[offersAt_parked_send];simp
    rw[hn] at this;cases this
end
section
variable {ι:Type} {E:dK ι} {L:Nat→Option Obj} {K:Nat→St} {gs:Array Goroutine} {w w':World} {t:Trace} {D:List (ak ι)} {pend d0:Nat} {cl:yQ} {sl:Option (Nat×Nat)}
 {Q:Machine→Outcome→World→Trace→Prop} {g g':Goroutine} {s:St} {es:Array Event}
theorem Inv.go0(h:Inv E L K gs w t D pend cl g d0)(hgo:stepG E.P true g w= .go g' w' es)(Oa:Tp w w')(bV:¬s'.knows E.Wg)(oB:¬s'.knows E.Ch)(uM:w'.heap[E.Ch]?=w.heap[E.Ch]?)
 (oP:Fit L (fD K 0 s') w' (t++MemOp.ofEvents 0 g.frame.fn g.frame.place es))
 (kB:∀op∈MemOp.ofEvents 0 g.frame.fn g.frame.place es,∀x,op.act.touch?=some x→E.At x→x.kind≠ .plain∧(x.kind= .said→cl=none))
 (gT:∀op∈MemOp.ofEvents 0 g.frame.fn g.frame.place es,∀a,op.act≠ .mark (.release a)) 
 (m9:∀cl',yE cl cl'→∃st sm,WgAt E.ty E.Wg w' st sm∧Md E.max (e8 ak.cnt D+lD) (e8 ak.c4 D) (e8 ak.c3 D) (e8 ak.c2 D) (cl'.map (·.2.1)) st sm) (Oo:e8 ak.cnt D+lD≤E.max):
 ∃kK u cl',runT E.P (crowd gs w sl) 0=(.next (crowd kK w' sl),u)∧Inv E L (fD K 0 s') kK w' (t++u) D lD cl' g' (deafBehind d0 es)∧cl'.isSome=cl.isSome:=by
 have IW:∀op∈MemOp.ofEvents 0 g.frame.fn g.frame.place es,op.g=0:=fun op ax=>Go.ConcR.g_of_ofEvents op ax
 have bN:=runT_crowd_go (P:=E.P) (sl:=sl) (i:=0) h.main (by simpa using hgo)
 have hdo:Deaf (t++MemOp.ofEvents 0 g.frame.fn g.frame.place es) 0=deafBehind d0 es:=by rw[Deaf_own,h.deaf]
 generalize MemOp.ofEvents 0 g.frame.fn g.frame.place es=u at*
 obtain⟨sn,rc,tm,hc⟩:=h.sy.chan
 have sA:w'.heap[E.Ch]?=some (.chan 0 #[] false sn rc tm):=by rw[uM];exact hc
 have dP:∀k,∀op∈u,op.g≠k+1:=fun k op ax=>by rw[IW op ax];omega
 have Ha:∀b,¬s'.knows b→(∀j,¬(K j).knows b)→∀j,¬(fD K 0 s' j).knows b:=fun b h1 h2 j=>by
  by_cases e:j=0
  ·subst e;rw[aB];exact h1
  ·rw[aD _ _ e];exact h2 j
 obtain⟨cl',Df,iF⟩:∃cl',yE cl cl'∧agq E (fD K 0 s') ((gs.map (woken E.P g g' w')).setIfInBounds 0 g') (t++u) D cl':=by
  have iF:=h.sy.Dw
  match cl,iF with
  |none,iF=>exact⟨none,.same _,iF⟩
  |some (ic,c,n),⟨h1,h2,h3,⟨gc,D7,pf⟩,h5⟩=>
   obtain⟨c',n',hw,ar8,_,hdc⟩:=CK.tries (ic:=ic) pf g g' w'
   refine⟨some (ic,c',n'),hw,h1,h2,by rw[gG _ _ (dP ic),hdc];exact h3,⟨_,fQ (by omega) D7,by rw[aD _ _ (by omega)];exact ar8⟩,fun⟨tr,e⟩=>?_⟩
   subst e
   cases hw with
   |same=>
    obtain⟨q,a1,a2,a3,a4⟩:=h5 ⟨tr,rfl⟩
    have hq:=lt_of_act? a1
    exact⟨q,by rw[act?_old hq];exact a1,by rw[g?_old hq];exact a2,(heard_old hq).2 a3,fun i r hi hcu=>let ⟨p,hp,Vb⟩:=a4 i r hi hcu;⟨p,RelBy.other hp (dP i),Vb⟩⟩
 refine⟨_,u,cl',bN,⟨⟨oP,by simp[h.base.size],fun k r hk=>?_,fun k hk b hb=>?_,fun op ax=>?_,⟨Oa.1.trans h.base.same.1,Oa.2.trans h.base.same.2⟩⟩,
  ⟨Ha _ bV h.sy.kW,Ha _ oB h.sy.kC,h.sy.lW,h.sy.lC,h.sy.ne,fun a=>(h.sy.norel a).app fun op ax=>gT op ax a,fun j hj p x hx hb hk=>?_,?_,m9 cl' Df,Oo,⟨sn,rc,tm,sA⟩,fun a b c hx=>h.sy.bal a b c (by rw[←uM];exact hx),iF⟩,?_,hdo⟩,by cases Df<;>rfl⟩
 ·obtain⟨x,hx,eZ⟩:=h.base.ok k r hk
  rw[aD _ _ (by omega)]
  have XF:=eZ.other (dP k)
  by_cases P8:r= .closer
  ·subst P8;exact⟨_,fQ (by omega) hx,trivial⟩
  ·exact⟨x,by rw[fQ (by omega) hx,eZ.woken P8 fun _=>⟨sn,rc,tm,sA⟩],XF⟩
 ·rw[Array.size_setIfInBounds,Array.size_map] at hk
  have:=h.base.size
  rw[aD _ _ (by omega)] at hb
  exact h.base.far k hk b hb
 ·rw[Array.size_setIfInBounds,Array.size_map]
  rcases Array.mem_append.1 ax with h'|h'
  ·exact h.base.ops op h'
  ·rw[IW op h',h.base.size];omega
 ·rcases bw hx with ⟨_,kJ⟩| ⟨_,op,P2,_,xy⟩
  ·exact(h.sy.plain j hj p x kJ hb hk).app u
  ·exact absurd hk (kB op P2 x xy hb).1
 ·have Ml:=h.sy.said
  match cl,cl',Df,Ml,kB with
  |none,_,.same _,Ml,_=>
   intro p x hx hb hk
   rcases bw hx with ⟨_,kJ⟩| ⟨hp,op,P2,ax,xy⟩
   ·exact(Ml p x kJ hb hk).app u
   ·exact Bw IW hp ax
  |some (ic,c,n),_,.same _,Ml,kB=>
   intro he p x hx hb hk
   rcases bw hx with ⟨_,kJ⟩| ⟨_,op,P2,_,xy⟩
   ·exact(Ml he p x kJ hb hk).app u
   ·exact absurd ((kB op P2 x xy (.inl hb)).2 hk) (by simp)
  |_,_,.up ic,_,_=>exact fun he=>he.elim
 ·have:=h.base.size
  rw[Array.getElem?_setIfInBounds_self_of_lt (by simp;omega)]
theorem Inv.GF(h:Inv E L K gs w t D pend cl g d0)(hw:w'.heap[E.Wg]?=w.heap[E.Wg]?):∀cl',yE cl cl'→∃st sm,WgAt E.ty E.Wg w' st sm∧Md E.max (e8 ak.cnt D+pend) (e8 ak.c4 D) (e8 ak.c3 D) (e8 ak.c2 D) (cl'.map (·.2.1)) st sm:=by
 intro cl' Df
 obtain⟨st,sm,ha,hm⟩:=h.sy.cells
 exact⟨st,sm,by unfold WgAt;rw[hw];exact ha,hm.anw Df⟩
def TM(E:dK ι)(L:Nat→Option Obj)(Q:Machine→Outcome→World→Trace→Prop)(pend:Nat)(b:Bool)(os:List ι)(d0:Nat)(g:Goroutine)(s:St):Prop:=
 TC E L Q pend b os d0 g s∧(b=true→os=[]→∀pc,TL E.P (iJ pc) L (G0 E pc) Q g s)
theorem TC.mono{os:List ι}(hl:s.le s')(h:TC E L Q pend b os d0 g s):TC E L Q pend b os d0 g s':=
 fun K gs w t D cl sl hb hI ho hle=>h K gs w t D cl sl hb hI ho (hl.trans hle)
theorem eX(b:Bool)(os:List ι)(hb:b=true→pend=0):Closed E.P true (TM E L Q pend b os 0) where
 step:=fun g s hs h=>by
  have hL:b=true→os=[]→∀pc,TL E.P (iJ pc) L (G0 E pc) Q g s:=fun e ho pc=>
   (H2 (OW pc) (Gf E pc) Q).step g s hs fun w ha=>let ⟨g',w',es,s',h1,h2,h3,h4⟩:=h w ha;⟨g',w',es,s',h1,h2,h3,h4.2 e ho pc⟩
  refine⟨wq hs (fun K gs w t D cl sl m ir hI ho hK hm=>?_) fun e=>⟨hb e,rfl,fun ho pc=>hL e ho pc⟩,hL⟩
  subst hK
  obtain⟨g',w',es,s',hgo,_,ht,hT,_⟩:=h w (hI.base.fit.ju 0)
  obtain⟨k1,k2,k3,k4,k5,k6⟩:=hI.sy.zf ht g.frame.fn g.frame.place
  obtain⟨kK,u,cl',hr,yu,Sk⟩:=hI.go0 (sl:=sl) hgo ⟨ht.os,ht.output⟩ k1 k2 k4 (hI.base.fit.own ht _ _) (fun op ax x hx rB=>absurd rB (k5 op ax x hx)) k6 (hI.GF k3) hI.sy.Bm
  rw[ht.deaf] at yu
  exact Ends.next (hm.trans hr) (hT _ kK w' _ D cl' sl (Sk.trans ir) yu ho (by rw[aB];exact St.le_refl _))
 mono:=fun g s s' hl h=>⟨h.1.mono hl,fun e ho pc=>(h.2 e ho pc).mono hl⟩
theorem Md.opened{mx n a b c:Nat}{o:Option CK}{st sm:Int}(h:Md mx n a b c o st sm)(ho:o=none):st=(n:Int)*KK∧sm=0:=by
 cases h with
 |start=>exact⟨rfl,rfl⟩
 |_=>cases ho
theorem DM{os:List ι}{d':Nat}(hs:g.status= .running)(hb:b=false)
 (h:∀w st sm,WgAt E.ty E.Wg w st sm→(b=false→st=((os.length+pend:Nat):Int)*KK∧sm=0)→os.length+pend≤E.max→∃w',stepG E.P true g w= .go g' w' es∧eB E w w'∧WgAt E.ty E.Wg w' (((os.length+lD:Nat):Int)*KK) 0)
 (yo:∀e∈es,ig E e)(hd:deafBehind d0 es=d')(hp:os.length+pend≤E.max→os.length+lD≤E.max)(hT:TC E L Q lD b os d' g' s):TC E L Q pend b os d0 g s:=by
 subst hb
 refine wq hs (fun K gs w t D cl sl m ir hI ho hK hm=>?_) fun e=>(by cases e)
 subst hK
 have hcn:cl=none:=by cases cl<;>simp_all
 subst hcn
 have iF:=hI.sy.Dw
 have arY:∀D:List (ak ι),(∀r∈D,r.early)→e8 ak.cnt D=(j5 D).length∧e8 ak.c4 D=0∧e8 ak.c3 D=0∧e8 ak.c2 D=0:=by
  intro D
  induction D with
  |nil=>intro _;exact⟨rfl,rfl,rfl,rfl⟩
  |cons r D ih=>
   intro hr
   obtain⟨i1,i4,i3,i2⟩:=ih fun x hx=>hr x (by simp[hx])
   have:=hr r (by simp)
   simp only[e8,List.map_cons,List.sum_cons,j5,List.filterMap_cons] at*
   cases r<;>first|exact this.elim| (simp[ak.cnt,ak.c4,ak.c3,ak.c2,ak.Us,i1,i4,i3,i2];try omega)
 obtain⟨c1,c4,c3,c2⟩:=arY D iF
 rw[ho] at c1
 obtain⟨st,sm,ha,mC⟩:=hI.sy.cells
 have HF:=hI.sy.Bm
 rw[c1] at HF
 have bL:st=((os.length+pend:Nat):Int)*KK∧sm=0:=by
  rw[c1] at mC
  exact mC.opened rfl
 obtain⟨w',hgo,htu,uk⟩:=h w st sm ha (fun _=>bL) HF
 have azb:=ig.ops yo 0 g.frame.fn g.frame.place
 obtain⟨kK,u,cl',hr,yu,Sk⟩:=hI.go0 (sl:=sl) (s':=K 0) (lD:=lD) hgo htu.same (hI.sy.kW 0) (hI.sy.kC 0) (htu.block _ (Ne.symm hI.sy.ne)) (by rw[lA];exact hI.sy.Ag hI.base.fit (.inl rfl) htu yo _ _)
  (fun op ax x hx _=>by rw[((azb op ax).2.2 x hx).2];exact⟨by simp,by simp⟩) (fun op ax=>(azb op ax).2.1) (fun cl' hw=>by
   cases hw
   rw[c1,c4,c3,c2]
   exact⟨_,_,uk,.start⟩) (by rw[c1];exact hp HF)
 rw[hd] at yu
 exact Ends.next (hm.trans hr) (hT _ kK w' _ D cl' sl (Sk.trans ir) yu ho (by rw[aB];exact St.le_refl _))
end
section
variable {ι:Type} {E:dK ι} {L:Nat→Option Obj} {K:Nat→St} {gs:Array Goroutine} {w w':World} {t:Trace} {D:List (ak ι)} {pend d0:Nat} {cl:yQ} {sl:Option (Nat×Nat)}
 {Q:Machine→Outcome→World→Trace→Prop} {g g' child:Goroutine} {s gP:St} {es:Array Event}
theorem uR(f:ak ι→Nat)(D:List (ak ι))(r:ak ι):e8 f (D++[r])=e8 f D+f r:=by simp[e8]
theorem Inv.spawn(h:Inv E L K gs w t D pend none g 0)(hrw:(K 0).rw=[])(bL:stepG E.P true g w= .spawn g' child w #[])(hle:gP.le (K 0)){r:ak ι}{cl':yQ} 
 (hr:r.left=false)(eZ:∀t',Deaf t' gs.size=0→nv E t' gs.size gP child r)
 (hn:r.cnt+lD=pend)(h4:r.c4=0)(h3:r.c3=0)(h2:r.c2=0)
 (ir:(cl'=none∧r.early)∨(∃n,cl'=some (D.length,.kd,n)∧r= .closer∧CK.at E gP child n .kd)):
 ∃kK u,runT E.P (crowd gs w sl) 0=(.next (crowd kK w sl),u)∧Inv E L (fD K gs.size gP) kK w (t++u) (D++[r]) lD cl' g' 0∧0 <gs.size:=by
 have uz:=h.base.size
 have bN:=runT_crowd_spawn (P:=E.P) (sl:=sl) (i:=0) h.main (by simpa using bL)
 have e0:MemOp.ofEvents 0 g.frame.fn g.frame.place #[]= #[]:=rfl
 rw[e0] at bN
 generalize hx:({g:=0,fn:=g.frame.fn,pos:=g.frame.place,act:= .go gs.size}:MemOp)=x at bN
 generalize hy:({g:=gs.size,fn:=child.frame.fn,pos:=g.frame.place,act:= .start}:MemOp)=y at bN
 have ex:x.g=0∧x.act= .go gs.size:=by rw[←hx];exact⟨rfl,rfl⟩
 have ey:y.g=gs.size∧y.act= .start:=by rw[←hy];exact⟨rfl,rfl⟩
 have eu:((#[]:Array MemOp).push x).push y= #[x,y]:=rfl
 rw[eu] at bN
 have hq:∀op∈ #[x,y],op.act.touch?=none:=by intro op ax;simp at ax;rcases ax with rfl|rfl<;>simp[ex.2,ey.2,MemAct.touch?]
 have Ot:∀op∈ #[x,y],∀m,op.act≠ .mark m:=by intro op ax;simp at ax;rcases ax with rfl|rfl<;>simp[ex.2,ey.2]
 have hg:∀op∈ #[x,y],op.g=0∨op.g=gs.size:=by intro op ax;simp at ax;rcases ax with rfl|rfl<;>simp[ex.1,ey.1]
 have KO:Deaf t gs.size=0:=ConcN.Deaf_absent fun i op ho e=>by have:=h.base.ops op (mem_of_getElem? ho);omega
 have yq:∀k,Deaf (t++ #[x,y]) k=Deaf t k:=fun k=>fO t k _ Ot
 have adA:∀p,Knows t 0 p→Knows (t++ #[x,y]) gs.size p:=fun p hp=>ConcN.fork_knows ex ey h.deaf KO hp
 have oP:=h.base.fit.quiet (u:= #[x,y]) (w':=w) E.Ch h.sy.kC h.sy.lC (Nat.le_refl _) (fun _ _ _=>rfl) hq
 have Xz:gP.rw=[]:=by
  obtain⟨R,hR,_⟩:=hle
  rw[hrw] at hR
  have:=List.append_eq_nil_iff.1 (List.nil_perm.1 hR)
  exact this.1
 have zr:∀b o,gP.ro b=some o→(K 0).ro b=some o:=fun b o hb=>by
  obtain⟨R,hR,h2⟩:=hle
  rw[hrw] at hR
  have:=List.append_eq_nil_iff.1 (List.nil_perm.1 hR)
  rcases h2 b o hb with h3|h3
  ·exact h3
  ·rw[this.2] at h3;cases h3
 have adB:=oP.share (i:=0) (n:=gs.size) (by omega) gP Xz zr fun b hb p z hz hzb hzw=>by
  rcases bw hz with ⟨_,Da⟩| ⟨_,op,hm,_,hzo⟩
  ·refine adA p (h.base.fit.qF 0 b ?_ p z Da hzb hzw)
   cases lU:gP.ro b with
   |none=>exact absurd lU hb
   |some o=>rw[zr b o lU];simp
  ·rw[hq op hm] at hzo;cases hzo
 have Ha:∀b,(∀j,¬(K j).knows b)→∀j,¬(fD K gs.size gP j).knows b:=fun b hb j hk=>by
  by_cases e:j=gs.size
  ·subst e;rw[aB] at hk;exact hb 0 (hle.knows hk)
  ·rw[aD _ _ e] at hk;exact hb j hk
 have iF:=h.sy.Dw
 have nU:∀ {k z},(D++[r])[k]?=some z→(k <D.length∧D[k]?=some z)∨(k=D.length∧z=r):=fun {k z} hk=>by
  rcases Nat.lt_trichotomy k D.length with cz|e|hgt
  ·rw[List.getElem?_append_left cz] at hk;exact .inl ⟨cz,hk⟩
  ·subst e;rw[List.getElem?_append_right (Nat.le_refl _)] at hk;simp at hk;exact .inr ⟨rfl,hk.symm⟩
  ·rw[List.getElem?_eq_none (by simp;omega)] at hk;cases hk
 have hgs:∀k,k≠0→k <gs.size→((gs.setIfInBounds 0 g').push child)[k]?=gs[k]?:=fun k h0 cz=>by
  rw[Array.getElem?_push_lt (by simpa using cz),←Array.getElem?_eq_getElem,Array.getElem?_setIfInBounds_ne (Ne.symm h0)]
 have hgn:((gs.setIfInBounds 0 g').push child)[gs.size]?=some child:=by
  rw[Array.getElem?_push,if_pos (by simp)]
 refine⟨_,_,bN,⟨⟨adB,by simp[uz],fun k z hk=>?_,fun k hk b hb=>?_,fun op ax=>?_,h.base.same⟩,
  ⟨Ha _ h.sy.kW,Ha _ h.sy.kC,h.sy.lW,h.sy.lC,h.sy.ne,fun a=>(h.sy.norel a).app fun op ax=>Ot op ax _,fun j hj p z hz hzb hzk=>?_,?_,?_,?_,h.sy.chan,h.sy.bal,?_⟩,?_,by rw[yq];exact h.deaf⟩,by omega⟩
 ·rcases nU hk with ⟨cz,jh⟩| ⟨rfl,rfl⟩
  ·obtain⟨q,hqk,aNV⟩:=h.base.ok k z jh
   exact⟨q,by rw[hgs _ (by omega) (by omega)];exact hqk,by rw[aD _ _ (by omega)];exact aNV.other fun op ax=>by rcases hg op ax with e|e<;>rw[e]<;>omega⟩
  ·refine⟨child,by rw[←uz];exact hgn,?_⟩
   rw[←uz,aB]
   exact eZ _ (by rw[yq];exact KO)
 ·rw[Array.size_push,Array.size_setIfInBounds] at hk
  rw[aD _ _ (by omega)] at hb
  exact h.base.far k (by omega) b hb
 ·rw[Array.size_push,Array.size_setIfInBounds]
  rcases Array.mem_append.1 ax with h'|h'
  ·have:=h.base.ops op h';omega
  ·rcases hg op h' with e|e<;>rw[e]<;>omega
 ·rcases bw hz with ⟨_,Da⟩| ⟨_,op,hm,_,hzo⟩
  ·rcases hj with rfl| ⟨k,q,rfl,hk,hl⟩
   ·exact(h.sy.plain 0 (.inl rfl) p z Da hzb hzk).app _
   ·rcases nU hk with ⟨_,jh⟩| ⟨rfl,rfl⟩
    ·exact(h.sy.plain (k+1) (.inr ⟨k,q,rfl,jh,hl⟩) p z Da hzb hzk).app _
    ·rw[←uz];exact adA p (h.sy.plain 0 (.inl rfl) p z Da hzb hzk)
  ·rw[hq op hm] at hzo;cases hzo
 ·have Ml:=h.sy.said
  rcases ir with ⟨rfl,_⟩| ⟨n,rfl,_,_⟩
  ·intro p z hz hzb hzk
   rcases bw hz with ⟨_,Da⟩| ⟨_,op,hm,_,hzo⟩
   ·exact(Ml p z Da hzb hzk).app _
   ·rw[hq op hm] at hzo;cases hzo
  ·intro _ p z hz hzb hzk
   rcases bw hz with ⟨_,Da⟩| ⟨_,op,hm,_,hzo⟩
   ·rw[←uz];exact adA p (Ml p z Da hzb hzk)
   ·rw[hq op hm] at hzo;cases hzo
 ·obtain⟨st,sm,ha,mC⟩:=h.sy.cells
  refine⟨st,sm,ha,?_⟩
  rw[uR,uR,uR,uR,h4,h3,h2,show e8 ak.cnt D+r.cnt+lD=e8 ak.cnt D+pend by omega]
  rcases ir with ⟨rfl,_⟩| ⟨n,rfl,_,_⟩
  ·exact mC
  ·have z:∀(f:ak ι→Nat),(∀r:ak ι,r.early→f r=0)→e8 f D=0:=fun f hf=>by
    unfold e8
    rw[List.sum_eq_zero_iff_forall_eq_nat]
    intro a uk
    obtain⟨q,G5,rfl⟩:=List.mem_map.1 uk
    exact hf q (iF q G5)
   have z4:=z ak.c4 fun r hr=>by cases r<;>first|rfl|exact hr.elim
   have z3:=z ak.c3 fun r hr=>by cases r<;>first|rfl|exact hr.elim
   have z2:=z ak.c2 fun r hr=>by cases r<;>first|rfl|exact hr.elim
   obtain⟨rfl,rfl⟩:=mC.opened rfl
   rw[z4,z3,z2]
   exact .kd
 ·rw[uR];have:=h.sy.Bm;omega
 ·rcases ir with ⟨rfl,PX⟩| ⟨n,rfl,rfl,pf⟩
  ·intro z hz
   rcases List.mem_append.1 hz with h'|h'
   ·exact iF z h'
   ·simp at h';subst h';exact PX
  ·refine⟨by simp,fun k hk=>?_,by rw[yq,←uz];exact KO,⟨child,by rw[←uz];exact hgn,by rw[←uz,aB];exact pf⟩,fun⟨_,e⟩=>(by cases e)⟩
   rcases nU hk with ⟨_,jh⟩| ⟨e,_⟩
   ·exact(iF _ (List.mem_of_getElem? jh)).elim
   ·exact e
 ·rw[Array.getElem?_push_lt (by simp;omega),←Array.getElem?_eq_getElem,Array.getElem?_setIfInBounds_self_of_lt (by omega)]
theorem H5{os:List ι}{o:ι}(hs:g.status= .running)(hrw:s.rw=[])(bL:∀w,aP s w→stepG E.P true g w= .spawn g' child w #[])(hw:eG E.P false (E.HX o) child s)
 (hT:TC E L Q 0 false (os++[o]) 0 g' s):TC E L Q 1 false os 0 g s:=by
 refine wq hs (fun K gs w t D cl sl m ir hI ho hK hm=>?_) fun e=>(by cases e)
 subst hK
 have hcn:cl=none:=by cases cl<;>simp_all
 subst hcn
 obtain⟨tr,gP,hle,htr⟩:=hw
 obtain⟨kK,u,hr,yu,h0⟩:=hI.spawn (sl:=sl) (r:= .work o tr) (cl':=none) (lD:=0) hrw (bL w (hI.base.fit.ju 0)) hle rfl (fun t' hd=>⟨hd,htr⟩) rfl rfl rfl rfl (.inl ⟨rfl,trivial⟩)
 exact Ends.next (hm.trans hr) (hT _ kK w _ _ none sl rfl yu (by simp[j5,List.filterMap_append,ak.Us] at ho ⊢;exact ho) (by rw[aD _ _ (by omega)];exact St.le_refl _))
theorem H6{os:List ι}(hs:g.status= .running)(hrw:s.rw=[])(bL:∀w,aP s w→stepG E.P true g w= .spawn g' child w #[])(hw:E.closes s child)
 (hT:TC E L Q 0 true os 0 g' s):TC E L Q 0 false os 0 g s:=by
 refine wq hs (fun K gs w t D cl sl m ir hI ho hK hm=>?_) fun e=>(by cases e)
 subst hK
 have hcn:cl=none:=by cases cl<;>simp_all
 subst hcn
 obtain⟨n,hn⟩:=hw
 obtain⟨kK,u,hr,yu,h0⟩:=hI.spawn (sl:=sl) (gP:=K 0) (r:= .closer) (cl':=some (D.length,.kd,n)) (lD:=0) hrw (bL w (hI.base.fit.ju 0)) (St.le_refl _) rfl (fun t' hd=>trivial) rfl rfl rfl rfl (.inr ⟨n,rfl,rfl,hn⟩)
 exact Ends.next (hm.trans hr) (hT _ kK w _ _ _ sl rfl yu (by rw[j5,List.filterMap_append];simp only[List.filterMap_cons,ak.Us,List.filterMap_nil,List.append_nil];exact ho) (by rw[aD _ _ (by omega)];exact St.le_refl _))
end
section
variable {ι:Type} {E:dK ι} {Q:Machine→Outcome→World→Trace→Prop} {g:Goroutine} {s s':St}
theorem MJ{L:Nat→Option Obj}(hs:g.status= .running)(dP:E.Wg≠E.Ch)
 (hW:(E.Wg,wgBlock E.ty 0 0)∈s.rw)(hC:∃tm,(E.Ch,Obj.chan 0 #[] false 0 0 tm)∈s.rw)
 (hle:s'.le s)(hkW:¬s'.knows E.Wg)(hkC:¬s'.knows E.Ch)(j8:∀b,s'.iC b→L b=none)
 (hL:∀b o,L b=some o→s.has b o∧b≠E.Wg∧b≠E.Ch)
 (hT:TC E L Q 0 false [] 0 g s'):TL E.P eg (fun _=>none) (Calm E.os E.out) Q g s:=by
 intro K gs w t q sl hLv h0 aOr hd ⟨aqV,acI⟩
 have hLv:=hLv.le aOr
 have Xz:(fD K 0 s) 0=s:=aB _ _ _
 have oQ:=hLv.fit.ju 0
 rw[Xz] at oQ
 obtain⟨tm,hC⟩:=hC
 have hWw:=oQ.rw _ _ hW
 have hCw:=oQ.rw _ _ hC
 have hex:∀i,i <q.length→∃d,∃x,gs[i+1]?=some x∧QuitsD E.P (q.getD i 0) d x∧Deaf t (i+1)=d∧eg t (i+1):=fun i hi=>by
  obtain⟨x,d,h1,h2,h3,h4⟩:=hLv.ok i _ (List.getElem?_eq_getElem hi)
  exact⟨d,x,h1,by rw[List.getD_eq_getElem?_getD,List.getElem?_eq_getElem hi];exact h2,h3,h4⟩
 let D:List (ak ι):=(List.range q.length).map fun i=>ak.leave (q.getD i 0) (Deaf t (i+1)) false
 have hD:∀i r,D[i]?=some r→i <q.length∧r=ak.leave (q.getD i 0) (Deaf t (i+1)) false:=fun i r hi=>by
  simp only[D,List.getElem?_map] at hi
  obtain⟨j,hj,rfl⟩:=Option.map_eq_some_iff.1 hi
  obtain⟨cz,rfl⟩:=List.getElem?_eq_some_iff.1 hj
  simp only[List.length_range] at cz
  simp only[List.getElem_range]
  exact⟨cz,trivial⟩
 have iE:∀r∈D,∃a b,r=ak.leave a b false:=fun r hr=>by
  obtain⟨i,hi⟩:=List.getElem?_of_mem hr
  exact⟨_,_,(hD i r hi).2⟩
 have hzero:∀f:ak ι→Nat,(∀a b,f (.leave a b false)=0)→e8 f D=0:=fun f hf=>by
  unfold e8
  rw[List.sum_eq_zero_iff_forall_eq_nat]
  intro x hx
  obtain⟨r,hr,rfl⟩:=List.mem_map.1 hx
  obtain⟨a,b,rfl⟩:=iE r hr
  exact hf a b
 let K':Nat→St:=fun j=>if j=0 then s' else ⟨fun _=>none,[]⟩
 have Vu:K' 0=s':=by simp[K']
 have hKn:∀j,j≠0→K' j=⟨fun _=>none,[]⟩:=fun j hj=>by simp[K',hj]
 have none:∀j b,j≠0→¬(K' j).knows b:=fun j b hj hk=>by
  rw[hKn j hj] at hk
  rcases hk with hk| ⟨o,ho⟩
  ·exact hk rfl
  ·cases ho
 have FV:Fit (fun _=>Option.none) K' w t:=hLv.fit.le fun j=>by
  by_cases e:j=0
  ·subst e;rw[Vu,Xz];exact hle
  ·rw[hKn j e];exact⟨(fD K 0 s j).rw,by simp,fun b o hb=>(by cases hb)⟩
 have adB:Fit L K' w t:=by
  refine⟨fun b o hl=>oQ.has (hL b o hl).1,fun i b ho=>?_,FV.ju,FV.sep,FV.perm,FV.qF,FV.old,FV.clean,fun p x b hx hk hb=>⟨?_,(FV.sync p x b hx hk hb).2⟩⟩
  ·by_cases e:i=0
   ·subst e;rw[Vu] at ho;exact j8 b ho
   ·exact absurd (.inr ho) (none i b e)
  ·cases hl:L b with
   |none=>rfl
   |some o=>
    have:=(hLv.fit.sync p x b hx hk hb).2 0
    rw[Xz] at this
    rcases(hL b o hl).1 with h1|h1
    ·exact absurd (.inl (by rw[h1];simp)) this
    ·exact absurd (.inr ⟨o,h1⟩) this
 have hLb:∀b,(b=E.Wg∨b=E.Ch)→L b=Option.none:=fun b hb=>by
  cases hl:L b with
  |none=>rfl
  |some o=>
   rcases hb with e|e
   ·exact absurd e (hL b o hl).2.1
   ·exact absurd e (hL b o hl).2.2
 have hKk:∀b,¬s'.knows b→∀j,¬(K' j).knows b:=fun b hb j=>by
  by_cases e:j=0
  ·subst e;rw[Vu];exact hb
  ·exact none j b e
 have alK:∀p x,touchAt t p=some x→blk x.loc=some E.Wg→Knows t 0 p:=fun p x hx hb=>hLv.fit.perm 0 E.Wg (by rw[Xz];exact⟨_,hW⟩) p x hx hb
 have axq:∀p x,touchAt t p=some x→E.At x→Knows t 0 p:=fun p x hx hb=>hb.elim (alK p x hx) fun hb=>hLv.fit.perm 0 E.Ch (by rw[Xz];exact⟨_,hC⟩) p x hx hb
 refine hT K' gs w t D Option.none sl rfl ⟨⟨adB,by simp[D,hLv.size],fun i r hi=>?_,fun i hi b=>?_,hLv.ops,acI⟩,
  ⟨hKk _ hkW,hKk _ hkC,hLb _ (.inl rfl),hLb _ (.inr rfl),dP,aqV,fun j hj p x hx hb _=>?_,fun p x hx hb _=>alK p x hx hb,⟨0,0,hWw,?_⟩,?_,⟨0,0,tm,hCw⟩,fun a b c hx=>?_,fun r hr=>?_⟩,h0,hd⟩ ?_ (by rw[Vu];exact St.le_refl _)
 ·obtain⟨cz,rfl⟩:=hD i r hi
  obtain⟨d,x,h1,h2,h3,h4⟩:=hex i cz
  exact⟨x,h1,hKn _ (by omega),by rw[h3];exact h2,rfl,(fun e=>(by cases e)),fun _=>h4⟩
 ·exact none i b (by have:=hLv.size;omega)
 ·rcases hj with rfl| ⟨k,r,rfl,hk,hl⟩
  ·exact axq p x hx hb
  ·obtain⟨_,rfl⟩:=hD k r hk;cases hl
 ·rw[hzero ak.cnt fun _ _=>rfl,hzero ak.c4 fun _ _=>rfl,hzero ak.c3 fun _ _=>rfl,hzero ak.c2 fun _ _=>rfl]
  have:=Md.start (mx:=E.max) (n:=0)
  simpa using this
 ·rw[hzero ak.cnt fun _ _=>rfl];omega
 ·rw[hCw] at hx
  simp only[Option.some.injEq,Obj.chan.injEq] at hx
  omega
 ·obtain⟨a,b,rfl⟩:=iE r hr;rfl
 ·unfold j5
  rw[List.filterMap_eq_nil_iff]
  intro r hr
  obtain⟨a,b,rfl⟩:=iE r hr;rfl
end
theorem Ck(os:Os)(out:Array (Nat×ByteArray)):V8 (Calm os out) where
 grow:=fun _ _ _ _ h hu=>⟨fun a=>(h.1 a).app fun op ax=>hu op ax a,h.2⟩
 drawn:=fun _ _ _ _ h=>h
 le:=fun _ _ _ _ h _=>h
 own:=fun _ _ _ _ _ _ _ h ht hu=>⟨fun a=>(h.1 a).app fun op ax=>hu op ax a,ht.os.trans h.2.1,ht.output.trans h.2.2⟩
def T0(P:Program)(os:Os)(out:Array (Nat×ByteArray))(Post:Value→World→Prop):Goroutine→St→Prop:=TL P eg (fun _=>none) (Calm os out) (Good P Post)
theorem rR(P:Program)(os:Os)(out:Array (Nat×ByteArray))(Post:Value→World→Prop):Closed P true (T0 P os out Post):=H2 Cv (Ck os out) _
theorem Wn{os:Os}{out:Array (Nat×ByteArray)}{Post:Value→World→Prop}{g:Goroutine}(hs:g.status= .running)
 (bL:∀w,aP s w→w.os=os→w.output=out→∃v w' es s',stepG P true g w= .ended (.done v) w' es∧Post v w'∧Trans s w s' w' es):T0 P os out Post g s:=by
 refine JB Cv (Ck os out) hs fun K gs w t q sl m hL h0 hK hd hi hm hmg=>?_
 subst hK
 obtain⟨v,w',es,s',hgo,hp,ht⟩:=bL w (hL.fit.ju 0) hi.2.1 hi.2.2
 have hr:=ConcN.runT_crowd_ended (P:=P) (sl:=sl) (i:=0) h0 (by simpa using hgo)
 have oP:=hL.fit.own ht g.frame.fn g.frame.place
 generalize hu:MemOp.ofEvents 0 g.frame.fn g.frame.place es=u at hr oP
 have IW:∀op∈u,op.g=0:=by rw[←hu];exact fun op ax=>Go.ConcR.g_of_ofEvents op ax
 refine⟨0,m,.done v,w',t++u,by simp[runNT,hm,hr],rfl,by simp[step,hm,hr],v,rfl,hp,oP.clean,fun i k hk dP hc=>?_,⟨fun x hx=>?_,by rw[hmg.2];rfl⟩,fun i x hx dP=>?_⟩
 ·obtain⟨op,ho,bcr⟩:=Option.map_eq_some_iff.1 hk
  cases k with
  |zero=>exact absurd rfl dP
  |succ k=>
   have cz:op.g <gs.size:=by
    rcases Array.mem_append.1 (mem_of_getElem? ho) with h'|h'
    ·exact hL.ops op h'
    ·rw[IW op h',hL.size];omega
   have hkq:k <q.length:=by have:=hL.size;omega
   obtain⟨_,_,_,_,_,bP⟩:=hL.ok k _ (List.getElem?_eq_getElem hkq)
   exact(bP.other fun op ax=>by rw[IW op ax];omega) i hk hc
 ·rw[hmg.1] at hx
  obtain⟨j,hj⟩:=List.getElem?_of_mem hx
  rw[List.getElem?_drop,Array.getElem?_toList] at hj
  have hjq:j <q.length:=by have:=lt_size hj;have:=hL.size;omega
  obtain⟨y,d,hy,hq,_⟩:=hL.ok j _ (List.getElem?_eq_getElem hjq)
  rw[Nat.add_comm] at hj
  rw[hj] at hy
  obtain rfl:=Option.some.inj hy
  exact⟨_,hq.leaves⟩
 ·rw[hmg.1] at hx
  cases i with
  |zero=>exact absurd rfl dP
  |succ j=>
   have hjq:j <q.length:=by have:=lt_size hx;have:=hL.size;omega
   obtain⟨y,d,hy,hq,hdd,_⟩:=hL.ok j _ (List.getElem?_eq_getElem hjq)
   rw[hx] at hy
   obtain rfl:=Option.some.inj hy
   refine⟨q[j],?_⟩
   have e:(t++u).deaf (j+1) (t++u).size=d:=by
    have:=gG t u (g:=j+1) fun op ax=>by rw[IW op ax];omega
    unfold Deaf at this hdd
    rw[this];exact hdd
   rw[e]
   exact hq.hears m.world
theorem ZY{Post:Value→World→Prop}{g:Goroutine}{w:World}(ha:aP s w)(h:T0 P w.os w.output Post g s):Ends P (Good P Post) (solo g w) #[]:=by
 rw[solo_eq_crowd]
 have IY:∀p x,touchAt #[] p=some x→False:=fun p x hx=>by simp[touchAt,Trace.act?] at hx
 have hn:∀i,i≠0→∀b,¬((if i=0 then s else ⟨fun _=>none,[]⟩:St)).knows b:=fun i hi b hk=>by
  rw[if_neg hi] at hk
  rcases hk with hk| ⟨o,ho⟩
  ·exact hk rfl
  ·cases ho
 refine h (fun j=>if j=0 then s else ⟨fun _=>none,[]⟩) #[g] w #[] [] none ⟨⟨(fun _ _ e=>(by cases e)),fun _ _ _=>rfl,fun i=>?_,fun i j b G9 ho hk=>?_,fun _ _ _ p x hx=>(IY p x hx).elim,fun _ _ _ p x hx=>(IY p x hx).elim,
  fun p x _ hx=>(IY p x hx).elim,(fun said ⟨i,j,_,⟨a,b,h1,_⟩,_⟩=>by simp[Trace.act?] at h1),fun p x _ hx=>(IY p x hx).elim⟩,rfl,fun i n hi=>by simp at hi,fun i b hi hk=>hn i hi b hk,by simp⟩ rfl (by simp only[if_true];exact St.le_refl _) rfl ⟨fun a i=>by simp[Trace.act?],rfl,rfl⟩
 ·by_cases e:i=0
  ·simp only[e,if_true];exact ha
  ·simp only[if_neg e];exact⟨(fun _ _ e=>(by cases e)),(fun _ _ e=>(by cases e)),by simp,(fun _ _ e=>(by cases e))⟩
 ·by_cases e:j=0
  ·exact hn i (fun e'=>G9 (e'.trans e.symm)) b (.inr ho)
  ·exact hn j e b hk
section
variable {ι:Type} {E:dK ι} {L:Nat→Option Obj} {pend d0:Nat} {Q:Machine→Outcome→World→Trace→Prop} {g g':Goroutine} {s:St} {os:List ι}
theorem TP(hs:g.status= .running)(bL:∀w,E.live w→stepG E.P true g w= .go g' w #[])(hT:TC E L Q pend false os d0 g' s):TC E L Q pend false os d0 g s:=
 DM (es:= #[]) (lD:=pend) hs rfl (fun w st sm ha hb _=>⟨w,bL w ⟨st,sm,ha⟩,eB.refl w,by obtain⟨rfl,rfl⟩:=hb rfl;exact ha⟩) (by simp) rfl id hT
theorem ahQ(hs:g.status= .running)(bL:∀w,E.live w→stepG E.P true g w= .go g' w #[said (.read (smA E.Wg))])(hT:TC E L Q pend false os d0 g' s):TC E L Q pend false os d0 g s:=by
 refine wq hs (fun K gs w t D cl sl m ir hI ho hK hm=>?_) fun e=>(by cases e)
 subst hK
 have hcn:cl=none:=by cases cl<;>simp_all
 subst hcn
 obtain⟨st,sm,ha,_⟩:=hI.sy.cells
 have hgo:=bL w ⟨st,sm,ha⟩
 have e1:MemOp.ofEvents 0 g.frame.fn g.frame.place #[said (.read (smA E.Wg))]= #[{g:=0,fn:=g.frame.fn,pos:=g.frame.place,act:= .mark (.read (smA E.Wg))}]:=by rw[ofEvents_eq];simp[said,Go.ConcR.ofEvent_mk]
 have aqO:∀op∈MemOp.ofEvents 0 g.frame.fn g.frame.place #[said (.read (smA E.Wg))],op.g=0∧op.act= .mark (.read (smA E.Wg)):=by
  rw[e1];intro op ax;simp only[List.mem_toArray,List.mem_singleton] at ax;subst ax;exact⟨rfl,rfl⟩
 have htc:∀op∈MemOp.ofEvents 0 g.frame.fn g.frame.place #[said (.read (smA E.Wg))],∀x,op.act.touch?=some x→x=⟨.cell (smA E.Wg),false,.said⟩:=fun op ax x hx=>by
  rw[(aqO op ax).2] at hx;simp only[MemAct.touch?,Option.some.injEq] at hx;exact hx.symm
 obtain⟨kK,u,cl',hr,yu,Sk⟩:=hI.go0 (sl:=sl) (s':=K 0) (lD:=pend) hgo ⟨rfl,rfl⟩ (hI.sy.kW 0) (hI.sy.kC 0) rfl (by
  rw[lA]
  refine hI.base.fit.beside E.Wg 0 hI.sy.kW hI.sy.lW (lt_size ha) (Nat.le_refl _) (fun _ _ _=>rfl) (fun op ax=>(aqO op ax).1) fun op ax x hx=>?_
  obtain rfl:=htc op ax x hx
  refine⟨rfl,fun sd p a uk hc=>?_⟩
  have hl:blk a.loc=some E.Wg:=by rw[hc.1];rfl
  rcases hc.2.2.2 with h3|h3|h3
  ·exact hI.sy.plain 0 (.inl rfl) p a uk (.inl hl) h3
  ·cases h3
  ·exact hI.sy.said p a uk hl h3.2.1)
  (fun op ax x hx _=>by obtain rfl:=htc op ax x hx;exact⟨by simp,fun _=>rfl⟩) (fun op ax a=>by rw[(aqO op ax).2];simp) (hI.GF rfl) hI.sy.Bm
 exact Ends.next (hm.trans hr) (hT _ kK w _ D cl' sl (Sk.trans ir) yu ho (by rw[aB];exact St.le_refl _))
end
abbrev Ju:=Option Value×Option Value
abbrev iO:Ju:=(none,none)
def GH:Ju→Nat→Option Value
 | (a,_),0=>a
 | (_,b),1=>b
 |_,_=>none
theorem Pv(off:Nat):GH iO off=none:=by
 match off with
 |0=>rfl
 |1=>rfl
 |_+2=>rfl
def Lx:Ju→Nat→Value→Ju
 | (_,b),0,v=>(some v,b)
 | (a,_),1,v=>(a,some v)
 |c,_,_=>c
inductive RH(α:Type) where
 |ok (a:α)
 |halt (h:Halt)
structure VO(α:Type) where
 r:RH α
 ws:List (Nat×Value)
 es:List Event
 bs:List Nat
def ux(P:Program)(ty:TypeId):Sem α→Ju→Option (VO α)
 | .pure a,_=>some ⟨.ok a,[],[],[]⟩
 | .load m a k,c=>match a.spot with
  |some _=>none
  |none=>match GH c a.off with
   |some v=>match ux P ty (k v) c with
    |some o=>some ⟨o.r,o.ws,⟨.cell a,false,m== .atomic⟩::o.es,a.block::o.bs⟩
    |none=>none
   |none=>none
 | .store m a v k,c=>match a.spot with
  |some _=>none
  |none=>bif single v then (match GH c a.off with
   |some _=>match ux P ty k (Lx c a.off v) with
    |some o=>some ⟨o.r,(a.off,v)::o.ws,⟨.cell a,true,m== .atomic⟩::o.es,a.block::o.bs⟩
    |none=>none
   |none=>none) else none
 | .shape r k,c=>match ux P ty (k (some (ty,2))) c with
  |some o=>some ⟨o.r,o.ws,o.es,r::o.bs⟩
  |none=>none
 | .frozen a k,c=>match ux P ty (k false) c with
  |some o=>some ⟨o.r,o.ws,o.es,a.block::o.bs⟩
  |none=>none
 | .program k,c=>ux P ty (k P) c
 | .mark m k,c=>match ux P ty k c with
  |some o=>some ⟨o.r,o.ws,⟨.mark m,false,true⟩::o.es,o.bs⟩
  |none=>none
 | .halt h,_=>some ⟨.halt h,[],[],[]⟩
 |_,_=>none
def lN(ty:TypeId)(W:Nat)(w:World)(c:Ju):Prop:=∃a b,w.heap[W]?=some (.cells #[a,b] ty)∧(∀x,c.1=some x→a=x)∧∀x,c.2=some x→b=x
theorem lN.aad{w:World}{c:Ju}(h:lN ty W w c):∃a b,w.heap[W]?=some (.cells #[a,b] ty):=by
 obtain⟨a,b,h,_⟩:=h
 exact⟨a,b,h⟩
def J6(W:Nat)(w:World)(ws:List (Nat×Value)):World:=ws.foldl (fun w x=>w.setCell ⟨W,x.1,none⟩ x.2) w
def RH.to(w:World):RH α→Result α
 | .ok a=> .ok a w
 | .halt h=> .halt h w
theorem GG{w:World}{c:Ju}(h:lN ty W w c){v:Value}(hv:GH c off=some v):w.cell? ⟨W,off,none⟩=some v:=by
 obtain⟨p,q,h,h1,h2⟩:=h
 unfold GH at hv
 split at hv<;>try (cases hv;done)
 ·rw[←h1 _ hv];simp[World.cell?,h]
 ·rw[←h2 _ hv];simp[World.cell?,h]
theorem Yk{w:World}{c:Ju}(h:lN ty W w c){u v:Value}(hv:GH c off=some u):lN ty W (w.setCell ⟨W,off,none⟩ v) (Lx c off v):=by
 obtain⟨p,q,h,h1,h2⟩:=h
 unfold GH at hv
 split at hv<;>try (cases hv;done)
 ·exact⟨v,q,by simp[World.setCell,Array.getElem?_modify,h],by simp[Lx],fun x hx=>h2 x hx⟩
 ·exact⟨p,v,by simp[World.setCell,Array.getElem?_modify,h],fun x hx=>h1 x hx,by simp[Lx]⟩
theorem ZM{w:World}{a b:Value}(h:w.heap[W]?=some (.cells #[a,b] ty)) (off:Nat) (s:Option Nat):w.frozen? ⟨W,off,s⟩=false:=by
 simp[World.frozen?,h]
theorem JI(x:Sem α):∀ {c:Ju} {o:VO α} {w:World} (es:Array Event),ux P ty x c=some o→(∀b∈o.bs,b=W)→((c=iO∧o.bs=[])∨lN ty W w c)→x.runT P w es=(o.r.to (J6 W w o.ws),es++o.es.toArray):=by
 induction x with
 |pure a=>intro c o w es h hb hc;simp only[ux,Option.some.injEq] at h;subst h;simp[Sem.runT,RH.to,J6]
 |halt a=>intro c o w es h hb hc;simp only[ux,Option.some.injEq] at h;subst h;simp[Sem.runT,RH.to,J6]
 |load m a k ih=>
  intro c o w es h hb hc
  simp only[ux] at h
  split at h<;>try (cases h;done)
  rename_i hs
  split at h<;>try (cases h;done)
  rename_i v hv
  split at h<;>try (cases h;done)
  rename_i o1 h1
  simp only[Option.some.injEq] at h;subst h
  have e:a=⟨W,a.off,none⟩:=by
   have:=hb a.block (by simp)
   rcases a with ⟨x,y,z⟩
   simp only at hs this
   subst hs this;rfl
  have sA:lN ty W w c:=hc.elim (fun hh=>by rw[hh.1] at hv;rw[Pv] at hv;cases hv) id
  have FZ:w.cell? a=some v:=by rw[e];exact GG sA hv
  simp only[Sem.runT,FZ]
  rw[ih v _ h1 (fun b hm=>hb b (by simp[hm])) (.inr sA)]
  simp
 |store m a v k ih=>
  intro c o w es h hb hc
  simp only[ux] at h
  split at h<;>try (cases h;done)
  rename_i hs
  cases hsg:single v with
  |false=>rw[hsg] at h;cases h
  |true=>
  rw[hsg] at h;simp only[cond_true] at h
  split at h<;>try (cases h;done)
  rename_i u hu
  split at h<;>try (cases h;done)
  rename_i o1 h1
  simp only[Option.some.injEq] at h;subst h
  have e:a=⟨W,a.off,none⟩:=by
   have:=hb a.block (by simp)
   rcases a with ⟨x,y,z⟩
   simp only at hs this
   subst hs this;rfl
  have sA:lN ty W w c:=hc.elim (fun hh=>by rw[hh.1] at hu;rw[Pv] at hu;cases hu) id
  have FZ:w.cell? a=some u:=by rw[e];exact GG sA hu
  have hfz:w.frozen? a=false:=by
   obtain⟨p,q,Vb⟩:=sA.aad
   rw[e];exact ZM Vb _ _
  have oA:=Yk (v:=v) sA hu
  have key:(Sem.store m a v k).runT P w es=k.runT P (w.setCell a v) (es.push ⟨.cell a,true,m== .atomic⟩):=by
   cases v<;>first| (cases hsg;done)|simp[Sem.runT,FZ,hfz]
  rw[key,ih _ h1 (fun b hm=>hb b (by simp[hm])) (.inr (by rw[e];exact oA))]
  simp only[J6,List.foldl_cons]
  rw[←e]
  simp
 |shape r k ih=>
  intro c o w es h hb hc
  simp only[ux] at h
  split at h<;>try (cases h;done)
  rename_i o1 h1
  simp only[Option.some.injEq] at h;subst h
  have e:r=W:=hb r (by simp)
  have sA:lN ty W w c:=hc.elim (fun hh=>by cases hh.2) id
  have hsh:w.shape? r=some (ty,2):=by
   obtain⟨p,q,Vb⟩:=sA.aad
   rw[e];simp[World.shape?,Vb]
  simp only[Sem.runT,hsh]
  exact ih _ _ h1 (fun b hm=>hb b (by simp[hm])) (.inr sA)
 |frozen a k ih=>
  intro c o w es h hb hc
  simp only[ux] at h
  split at h<;>try (cases h;done)
  rename_i o1 h1
  simp only[Option.some.injEq] at h;subst h
  have e:a.block=W:=hb a.block (by simp)
  have sA:lN ty W w c:=hc.elim (fun hh=>by cases hh.2) id
  have hsh:w.frozen? a=false:=by
   obtain⟨p,q,Vb⟩:=sA.aad
   rcases a with ⟨x,y,z⟩
   simp only at e;subst e;exact ZM Vb _ _
  simp only[Sem.runT,hsh]
  exact ih _ _ h1 (fun b hm=>hb b (by simp[hm])) (.inr sA)
 |program k ih=>
  intro c o w es h hb hc
  simp only[ux] at h
  simp only[Sem.runT]
  exact ih _ _ h hb hc
 |mark m k ih=>
  intro c o w es h hb hc
  simp only[ux] at h
  split at h<;>try (cases h;done)
  rename_i o1 h1
  simp only[Option.some.injEq] at h;subst h
  simp only[Sem.runT]
  rw[ih _ h1 (fun b hm=>hb b hm) hc]
  simp
 |new o k ih=>intro c o w es h;cases h
 |freeze a n k ih=>intro c o w es h;cases h
 |getObj r k ih=>intro c o w es h;cases h
 |setObj r o k ih=>intro c o w es h;cases h
 |choose q k ih=>intro c o w es h;cases h
 |sys q k ih=>intro c o w es h;cases h
def atd(fr:Frame):Option Frame:=
 match fr.todo with
 | []=>match fr.roundOf with
  |none=>some {fr with mode:= .returning}
  |some _=>none
 | .code .ret::_=>match fr.roundOf with
  |none=>some {fr with mode:= .returning}
  |some _=>none
 | .code .skip::k=>some {fr with todo:=k}
 | .code (.label _)::k=>some {fr with todo:=k}
 | .inBlock _::k=>some {fr with todo:=k}
 | .inScope _::k=>some {fr with todo:=k}
 | .code (.seq a b)::k=>some {fr with todo:= .code a:: .code b::k}
 | .code (.cond c x y)::k=>match fr.eval c with
  | .bool b=>some {fr with todo:= .code (if b then x else y)::k}
  |_=>none
 | .code (.block id body)::k=>some {fr with todo:= .code body:: .inBlock id::k}
 | .code (.loop body)::k=>some {fr with todo:= .code body:: .inLoop body::k}
 | .inLoop body::k=>some {fr with todo:= .code body:: .inLoop body::k}
 | .code (.scope body)::k=>some {fr with todo:= .code body:: .inScope body::k}
 | .code (.exit id)::k=>match exitTo id k with
  |some k'=>some {fr with todo:=k'}
  |none=>none
 | .code (.region _ ops false)::k=>some {fr with todo:= .inRegion ops (List.range ops.size)::k}
 | .inRegion _ []::k=>some {fr with todo:=k}
 | .inRegion ops (i::_)::_=>if ((ops[i]?).map (Region.wanted · (yielded ops fr.tmps))).getD false then none else some (fr.finish undef)
 |_=>none
theorem akD{main:Bool}{fr nj:Frame}{cs:List Frame}(hm:fr.mode= .run)(h:atd fr=some nj)(w:World):stepG P main (G fr cs) w= .go (G nj cs) w #[]:=by
 rcases fr with ⟨fn,tmps,todo,defers,mode,kind,ro⟩
 simp only at hm;subst hm
 unfold atd at h
 simp only at h
 split at h
 all_goals try (cases h;done)
 all_goals try (simp only[Option.some.injEq] at h;subst h;simp[G,stepG,stepG.exec];done)
 ·split at h<;>try (cases h;done)
  simp only[Option.some.injEq] at h;subst h;simp[G,stepG,stepG.exec]
 ·split at h<;>try (cases h;done)
  simp only[Option.some.injEq] at h;subst h;simp[G,stepG,stepG.exec]
 ·split at h<;>try (cases h;done)
  rename_i b hb
  simp only[Option.some.injEq] at h;subst h
  simp only[G,stepG,stepG.exec,hb]
 ·split at h<;>try (cases h;done)
  rename_i b hb
  simp only[Option.some.injEq] at h;subst h
  simp[G,stepG,stepG.exec,hb]
 ·split at h<;>try (cases h;done)
  rename_i hw
  simp only[Option.some.injEq] at h;subst h
  simp only[G,stepG,stepG.exec,hw]
  simp
inductive OV where
 |go (fr:Frame) (gR:List Frame)
 |ret (v:Value)
 |aov
 |block
abbrev OVs:=Option (OV×List (Nat×Value)×List Event×List Nat)
def uh(P:Program)(fn:FuncId)(es:List Event):List Event:=(seen P fn es.toArray).toList
def U2:CallKind→Bool
 | .early=>true
 |_=>false
def aa1(P:Program)(ty:TypeId)(c:Ju)(fr:Frame)(gR:List Frame):OVs:=
 match fr.todo with
 | .inRegion ops (i::_)::_=>bif ((ops[i]?).map (Region.wanted · (yielded ops fr.tmps))).getD false&& !(U2 fr.kind) then (match fr.roundOf,fr.oper? with
  |none,some o=>match ux P ty (execOp fr.eval o) c with
   |some ⟨.ok (.value v),ws,es,bs⟩=>some (.go (fr.finish v) gR,ws,uh P fr.fn es,bs)
   |some ⟨.ok .skip,ws,es,bs⟩=>some (.go (fr.finish undef) gR,ws,uh P fr.fn es,bs)
   |some ⟨.ok (.enter f args),ws,es,bs⟩=>some (.go (Frame.enter P f args .normal) (fr::gR),ws,uh P fr.fn es,bs)
   |some ⟨.ok (.defer d),ws,es,bs⟩=>some (.go ({fr with defers:=d::fr.defers}.finish undef) gR,ws,uh P fr.fn es,bs)
   |some ⟨.halt .blocked,ws,_,bs⟩=>some (.block,ws,[],bs)
   |_=>none
  |_,_=>none) else none
 |_=>none
def ayp:Target→Bool
 | .fn .. =>true
 |_=>false
def anZ(P:Program)(ty:TypeId)(c:Ju)(fr:Frame)(gR:List Frame):OVs:=
 match fr.defers with
 | []=>match P.funcs[fr.fn]? with
  |some fn=>match ux P ty (results fn fr.tmps) c with
   |some ⟨.ok v,ws,es,bs⟩=>match gR with
    |q::fT=>match fr.kind with
     | .normal=>some (.go (q.finish v) fT,ws,uh P fr.fn es,bs)
     | .deferred=>match q.mode with
      | .returning=>some (.go q fT,ws,uh P fr.fn es,bs)
      |_=>none
     |_=>none
    | []=>match fr.kind with
     | .normal=>some (.ret v,ws,uh P fr.fn es,bs)
     | .deferred=>some (.aov,ws,uh P fr.fn es,bs)
     |_=>none
   |_=>none
  |none=>none
 |d::ds=>bif ayp d.target then (match ux P ty (invoke d.target d.args) c with
  |some ⟨.ok (.value _),ws,es,bs⟩=>some (.go {fr with defers:=ds} gR,ws,uh P fr.fn es,bs)
  |some ⟨.ok (.enter f args),ws,es,bs⟩=>some (.go (Frame.enter P f args .deferred) ({fr with defers:=ds}::gR),ws,uh P fr.fn es,bs)
  |_=>none) else none
def Nz(P:Program)(ty:TypeId)(c:Ju)(fr:Frame)(gR:List Frame):OVs:=
 match fr.mode with
 | .run=>match atd fr with
  |some nj=>some (.go nj gR,[],[],[])
  |none=>aa1 P ty c fr gR
 | .returning=>anZ P ty c fr gR
 |_=>none
def OV.is(P:Program)(main:Bool)(g:Goroutine)(w w':World)(es:Array Event)(cs:List Frame):OV→Prop
 | .go fr gR=>stepG P main g w= .go (G fr (gR++cs)) w' es
 | .ret v=>(∀c Hg,cs=c::Hg→stepG P main g w= .go (G (c.finish v) Hg) w' es)
 | .aov=>(∀c Hg,cs=c::Hg→(c.mode= .returning∨∃ch,c.mode= .panicking [⟨ch,false,true⟩])→stepG P main g w= .go (G c Hg) w' es)
 | .block=>stepG P main g w= .go {g with status:= .blocked} w' es
end Go.L
