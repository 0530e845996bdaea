/- Part 3 of the proof. -/
import Derived.Test.YtfamogolneloaaaGreatDoorT2
import Derived.Conc.CrowdStepC
import Derived.Conc.Own2
import Derived.Conc.TokenWalk
set_option maxRecDepth 100000
set_option linter.all false
namespace Go.L
open Go Go.Conc
open Go.ConcR (KK wgBlock WgAt stA smA rd wr)
variable {P:Program} {s cs iN:List Frame} {f fr n9:Frame} {Q:Machine→Outcome→World→Trace→Prop} {ro:Nat→Option Obj} {ty:TypeId} {main:Bool} {α:Type} {rest l:List Code} {W mC id i p n off pc sz:Nat} {T:Goroutine→St→Prop} {vs ws:List Value} {x:Operand} {xs:Array Operand} {g:Goroutine} {ca args fi:Array Value} {todo:List Nat} {b:ByteArray} {z:Value} {ats at_:Array TypeId} {s':St} {o:Obj} {st sm:Int}
section
variable {ι:Type} {E:eo ι} {L:Nat→Option Obj} {K:Nat→St} {gs:Array Goroutine} {w:World} {t:Trace} {D:List (au ι)} {d0:Nat} {main:Goroutine} {sl:Option (Nat×Nat)}
 {ic n:Nat} {g:Goroutine}
def JB(E:eo ι)(pc:Nat)(K:Nat→St)(w:World)(t:Trace):Prop:=
 (∃sn tm,w.heap[E.Ch]?=some (.chan 0 #[] true sn sn tm))∧¬(K 0).knows E.Ch∧t.act? pc=some (.close E.Ch)∧t.heard pc∧(∀a,NoRelease a t)∧w.os=E.os∧w.output=E.out
theorem IC(E:eo ι)(pc:Nat):aal (JB E pc) where
 grow:=fun K w t u h hu=>⟨h.1,h.2.1,by rw[act?_old (lt_of_act? h.2.2.1)];exact h.2.2.1,(heard_old (lt_of_act? h.2.2.1)).2 h.2.2.2.1,fun a=>(h.2.2.2.2.1 a).app fun op az=>hu op az a,h.2.2.2.2.2⟩
 drawn:=fun K w t d h=>h
 le:=fun K w t s h hl=>⟨h.1,by rw[aD];exact fun hk=>h.2.1 (hl.knows hk),h.2.2⟩
 own:=fun K w t s' w' es u h ht hu=>by
  obtain⟨⟨sn,tm,hc⟩,hk,ha,hh,hn,Se⟩:=h
  have cU:=lt_size hc
  refine⟨⟨sn,tm,by rw[ht.frame _ cU fun ho=>hk (.inr ho)];exact hc⟩,?_,by rw[act?_old (lt_of_act? ha)];exact ha,(heard_old (lt_of_act? ha)).2 hh,fun a=>(hn a).app fun op az=>hu op az a,ht.os.trans Se.1,ht.output.trans Se.2⟩
  rw[aD]
  rintro(h'|h')
  ·rcases ht.NB _ h' with h1|h1|h1
   ·omega
   ·exact hk (.inl h1)
   exact hk (.inr h1)
  rcases ht.own _ h' with h1|h1
  ·omega
  exact hk (.inr h1)
theorem aaM{r:au ι}(h1:r.cnt=0)(h4:r.c4=0)(h3:r.c3=0)(h2:r.c2=0)(hc:r≠ .closer):∃q d c,r= .leave q d c:=by
 cases r with
 |leave q d c=>exact⟨q,d,c,rfl⟩
 |closer=>exact absurd rfl hc
 |st k n=>cases k<;>simp[au.cnt,au.c4,au.c3,au.c2] at h1 h4 h3 h2
 |_=>exact absurd h1 (by simp[au.cnt])
theorem AcqAll.known(hA:AcqAll E t D ic)(hn:NoRelease (stA E.Wg) t){u:Trace}(hpc:t.size≤pc){y:MemOp}(hy:(t++u)[pc]?=some y) (hyg:y.g=ic+1) {r:au ι} (hi:D[i]?=some r) (hc:r.cur=true)
 (hp:t.g? p=some (i+1)) (hct:t.counts p):HappensBefore (t++u) p pc:=by
 obtain⟨q,h1,h2,h3,h4⟩:=hA
 obtain⟨x,hx,hxq⟩:=h4 i r hi hc
 have hq:=lt_of_act? h1
 have hqg:=h2
 obtain⟨oq,hoq,hgq⟩:=Option.map_eq_some_iff.1 h2
 have acn:HappensBefore t x q:= .single (.inr ⟨.marked hxq (.inr hx.act) h1 (fun k _ _=>hn k),hx.heard,h3⟩)
 have last:HappensBefore (t++u) q pc:=hb_po (by omega) (by rw[getElem?_append_old hq];exact hoq) hy (hgq.trans hyg.symm)
 have hle:p≤x:=Nat.le_of_not_lt fun cU=>hx.after p cU hp hct
 rcases Nat.lt_or_ge p x with cU|SF
 ·exact((hb_app u (.trans (.single (.inl ⟨cU,_,hp,hx.g⟩)) acn)).trans last)
 obtain rfl:p=x:=by omega
 exact(hb_app u acn).trans last
def agf(qc:Nat):au ι→Nat
 | .leave q _ _=>q
 |_=>qc
theorem Inv.close(h:Inv E L K gs w t D 0 (some (ic,.run .leaf,n)) main d0){main':Goroutine}(hm:∀(a a':Goroutine) (w':World),mayWake E.P a=true→(a'.status= .running∨a'.status= .finished)→(∃sn tm,w'.heap[E.Ch]?=some (.chan 0 #[] true sn sn tm))→woken E.P a a' w' main=main')
 (hg:gs[ic+1]?=some g):
 ∃lL w' u q,runT E.P (crowd gs w sl) (ic+1)=(.next (crowd lL w' sl),u)∧Lv E.P (jT (t.size+1)) L (fun j=>if j=0 then K 0 else ⟨fun _=>none,[]⟩) lL w' (t++u) q∧lL[0]?=some main'∧Deaf (t++u) 0=d0∧
  JB E (t.size+1) (fun j=>if j=0 then K 0 else ⟨fun _=>none,[]⟩) w' (t++u)∧lf D=[]:=by
 obtain⟨hic,HZ,As,⟨gc,Gt,qg⟩,Wb⟩:=h.sy.FU
 obtain rfl:gc=g:=by rw[hg] at Gt;exact(Option.some.inj Gt).symm
 obtain⟨st,sm,ha,nC⟩:=h.sy.cells
 obtain⟨e1,e4,e3,e2,rfl,rfl⟩:=nC.run rfl trivial
 obtain⟨_,hs,hmw,g',bX,q,hq⟩:=qg
 obtain⟨sn,rc,tm,hc⟩:=h.sy.chan
 have axD:=h.sy.bal _ _ _ hc
 subst axD
 have hA:=Wb ⟨_,rfl⟩
 have cU:=(List.getElem?_eq_some_iff.1 hic).1
 have VS:∀k r,D[k]?=some r→k≠ic→∃q d c,r= .leave q d c:=fun k r hk ek=>by
  refine aaM ?_ ?_ ?_ ?_ fun e=>ek (HZ k (e▸hk))
  ·have:=uo au.cnt hk;omega
  ·have:=uo au.c4 hk;omega
  ·have:=uo au.c3 hk;omega
  have:=uo au.c2 hk;omega
 have gP:=bX w sn sn tm hc
 have bY:=runT_crowd_go (P:=E.P) (sl:=sl) (i:=ic+1) hg (by simpa using gP)
 have q1:MemOp.ofEvents (ic+1) gc.frame.fn gc.frame.place #[⟨.obj E.Ch,false,true⟩,⟨.obj E.Ch,true,true⟩]= #[{g:=ic+1,fn:=gc.frame.fn,pos:=gc.frame.place,act:= .access ⟨.obj E.Ch,false,true⟩},{g:=ic+1,fn:=gc.frame.fn,pos:=gc.frame.place,act:= .close E.Ch}]:=by rw[ofEvents_eq];simp[MemAct.ofEvent]
 rw[q1] at bY
 generalize hu:(#[{g:=ic+1,fn:=gc.frame.fn,pos:=gc.frame.place,act:= .access ⟨.obj E.Ch,false,true⟩},{g:=ic+1,fn:=gc.frame.fn,pos:=gc.frame.place,act:= .close E.Ch}]:Trace)=u at bY
 have My:∀op∈u,op.g=ic+1∧(op.act= .access ⟨.obj E.Ch,false,true⟩∨op.act= .close E.Ch):=by rw[←hu];intro op az;simp at az;rcases az with rfl|rfl<;>simp
 have Za:∀op∈u,∀x,op.act.touch?=some x→x=⟨.obj E.Ch,false,.atomic⟩:=fun op az x hx=>by
  rcases(My op az).2 with e|e<;>rw[e] at hx
  ·simp only[MemAct.touch?,if_true,Option.some.injEq] at hx;exact hx.symm
  cases hx
 have Sz:∀op∈u,∀m,op.act≠ .mark m:=fun op az m=>by rcases(My op az).2 with e|e<;>rw[e]<;>simp
 have aGS:E.Ch <w.heap.size:=lt_size hc
 have tB:(w.heap.setIfInBounds E.Ch (.chan 0 #[] true sn sn tm))[E.Ch]?=some (.chan 0 #[] true sn sn tm):=by simp[aGS]
 have hpc:(t++u)[t.size+1]?=some {g:=ic+1,fn:=gc.frame.fn,pos:=gc.frame.place,act:= .close E.Ch}:=by rw[←hu];simp
 have hle:∀j,((fun j=>if j=0 then K 0 else ⟨fun _=>none,[]⟩) j:St).le (K j):=fun j=>by
  by_cases e:j=0
  ·subst e;exact St.le_refl _
  simp only[if_neg e];exact⟨(K j).rw,by simp,fun b o hb=>(by cases hb)⟩
 have aRa:∀x:Goroutine,(x.status= .running∨x.status= .finished)→woken E.P gc g' {w with heap:=w.heap.setIfInBounds E.Ch (.chan 0 #[] true sn sn tm)} x=x:=fun x hx=>by
  unfold Go.Conc.woken
  split
  ·exact again_running _ hx
  rfl
 have lq:∀i r,D[i]?=some r→i≠ic→jT (t.size+1) (t++u) (i+1):=fun i r hi ek=>by
  obtain⟨x,hx,fC⟩:=h.base.ok i r hi
  obtain⟨qq,d,c,rfl⟩:=VS i r hi ek
  refine⟨by rw[←hu];simp,?_⟩
  cases c with
  |false=>exact .inl ((fC.2.2.2.2 rfl).other fun op az=>by rw[(My op az).1];omega)
  |true=>
   refine .inr fun p hp hct=>?_
   obtain⟨op,ho,hgo⟩:=Option.map_eq_some_iff.1 hp
   rcases getElem?_append_cases ho with ⟨VU,_⟩| ⟨_,jM⟩
   ·exact hA.known (h.sy.norel _) (Nat.le_succ _) hpc rfl hi rfl (by rw[←g?_old (u:=u) VU];exact hp) ((counts_old VU).1 hct)
   rw[(My op jM).1] at hgo;omega
 refine⟨_,_,u,D.map (agf q),bY,⟨?_,by simp[h.base.size],fun k x hk=>?_,fun i b hi hk=>?_,fun op az=>?_⟩,?_,?_,⟨⟨sn,tm,tB⟩,h.sy.kC 0,?_,?_,fun a=>(h.sy.norel a).app fun op az=>Sz op az _,h.base.same.1,h.base.same.2⟩,?_⟩
 ·refine(h.base.fit.beside E.Ch (ic+1) h.sy.kC h.sy.lC aGS (by simp) (fun b hb _=>by simp[Ne.symm hb]) (fun op az=>(My op az).1) fun op az x hx=>?_).le hle
  obtain rfl:=Za op az x hx
  refine⟨rfl,fun sd p a u6 hc=>h.sy.plain _ (.inr ⟨ic,_,rfl,hic,rfl⟩) p a u6 (.inr (by rw[hc.1];rfl)) ?_⟩
  rcases hc.2.2.2 with h3|h3|h3
  ·exact h3
  ·cases h3
  cases h3.2.2
 ·rw[List.getElem?_map] at hk
  obtain⟨r,hr,rfl⟩:=Option.map_eq_some_iff.1 hk
  by_cases ek:k=ic
  ·subst ek
   rw[hic] at hr
   cases hr
   refine⟨g',0,by simp[h.base.size,cU],hq,by rw[gu _ _ _ Sz];exact As,by rw[←hu];simp,.inr fun p hp hct=>?_⟩
   obtain⟨op,ho,hgo⟩:=Option.map_eq_some_iff.1 hp
   rcases Nat.lt_or_ge p (t.size+1) with VU|SF
   ·exact hb_po VU ho hpc hgo
   have hpe:p=t.size+1:=by
    have:=lt_size ho
    rw[←hu] at this
    simp at this
    omega
   subst hpe
   obtain⟨y,hy,_⟩:=hct
   obtain⟨o',Gq,mj⟩:=touch_of hy
   rw[hpc] at Gq;cases Gq
   cases mj
  obtain⟨x,hx,fC⟩:=h.base.ok k r hr
  have bZ:=lq k r hr ek
  obtain⟨qq,d,c,rfl⟩:=VS k r hr ek
  exact⟨x,d,by rw[gx (by omega) hx,aRa x fC.2.1.status],fC.2.1,by rw[gu _ _ _ Sz];exact fC.2.2.1,bZ⟩
 ·simp only[if_neg hi] at hk
  rcases hk with hk| ⟨o,ho⟩
  ·exact hk rfl
  cases ho
 ·rw[Array.size_setIfInBounds,Array.size_map]
  rcases Array.mem_append.1 az with h'|h'
  ·exact h.base.ops op h'
  rw[(My op h').1,h.base.size];omega
 ·rw[gx (by omega) h.main,hm _ _ _ hmw hq.status ⟨sn,tm,tB⟩]
 ·rw[gu _ _ _ Sz];exact h.deaf
 ·rw[act?_of hpc]
 ·refine⟨ic+1,by simp[Trace.g?,hpc],?_⟩
  have e2:t++u=(t++ #[({g:=ic+1,fn:=gc.frame.fn,pos:=gc.frame.place,act:= .access ⟨.obj E.Ch,false,true⟩}:MemOp)])++ #[({g:=ic+1,fn:=gc.frame.fn,pos:=gc.frame.place,act:= .close E.Ch}:MemOp)]:=by rw[←hu,Array.append_assoc];rfl
  have e3:=gu t (ic+1) #[({g:=ic+1,fn:=gc.frame.fn,pos:=gc.frame.place,act:= .access ⟨.obj E.Ch,false,true⟩}:MemOp)] (by intro op az m;simp only[List.mem_toArray,List.mem_singleton] at az;subst az;simp)
  rw[e2,deaf_old (by simp)]
  unfold Deaf at e3 As
  rw[Array.size_append] at e3
  exact e3.trans As
 unfold lf
 rw[List.filterMap_eq_nil_iff]
 intro r hr
 obtain⟨k,hk⟩:=List.getElem?_of_mem hr
 by_cases ek:k=ic
 ·subst ek;rw[hic] at hk;cases hk;rfl
 obtain⟨qq,d,c,rfl⟩:=VS k r hk ek;rfl
end
section
variable {ι:Type} {E:eo ι} {L:Nat→Option Obj} {K:Nat→St} {gs:Array Goroutine} {w w':World} {t u:Trace} {D:List (au ι)} {pend d0:Nat} {cl:AZ} {main:Goroutine} {sl:Option (Nat×Nat)}
 {i:Nat} {g g':Goroutine} {es:Array Event}
def PLt(mx:Nat):List (au ι)×AZ→List (au ι)×AZ→Prop:=Prod.Lex (One uO) (InvImage F4 (nP mx))
theorem PLt.wf(mx:Nat):WellFounded (PLt (ι:=ι) mx):=(Prod.lex ⟨_,One.wf uO.wf⟩ ⟨_,InvImage.wf (nP mx) F4.wf⟩).wf
theorem Inv.other(h:Inv E L K gs w t D pend cl main d0)(hm:gV E main)(hg:gs[i+1]?=some g) (hs:g.status= .running) (BO:D[i]?≠some (.back .leaf)) (Dy:∀n,cl≠some (i,.run .leaf,n))
 (hw:(∃o,D[i]?=some (.work o .leaf))→main.status= .running):
 ∃K' lL w' u D' cl',runT E.P (crowd gs w sl) (i+1)=(.next (crowd lL w' sl),u)∧Inv E L K' lL w' (t++u) D' pend cl' main d0∧K' 0=K 0∧lf D'=lf D∧cl'.isSome=cl.isSome∧PLt E.max (D',cl') (D,cl)∧∀o,au.gM o∈D'→au.gM o∈D∨main.status= .running:=by
 have cU:i <D.length:=by have:=lt_size hg;have:=h.base.size;omega
 have hD:D[i]?=some D[i]:=List.getElem?_eq_getElem cU
 have fin:q5 E L K D pend cl main d0 (crowd gs w sl) sl t (i+1)→
  ∃K' lL w' u D' cl',runT E.P (crowd gs w sl) (i+1)=(.next (crowd lL w' sl),u)∧Inv E L K' lL w' (t++u) D' pend cl' main d0∧K' 0=K 0∧lf D'=lf D∧cl'.isSome=cl.isSome∧PLt E.max (D',cl') (D,cl)∧∀o,au.gM o∈D'→au.gM o∈D∨main.status= .running:=by
  rintro⟨K',lL,w',u,D',cl',h1,h2,h3,h4,h5,h6,h7,h8⟩
  refine⟨K',lL,w',u,D',cl',h1,h2,h3,h4,?_,Prod.Lex.left _ _ h5,h8⟩
  cases hc:cl with
  |none=>rw[h6 hc]
  |some x=>have:=h7 (by rw[hc];simp);cases cl'<;>simp_all
 obtain⟨x,hx,fC⟩:=h.base.ok i _ hD
 obtain rfl:x=g:=by rw[hg] at hx;exact(Option.some.inj hx).symm
 generalize hr:D[i]=r at hD fC
 match r,hD,fC with
 | .leave q d c,hD,fC=>exact fin (h.leave hm hD hg hs)
 | .work o (.node f),hD,fC=>exact fin (h.work hm hD hg)
 | .work o .leaf,hD,fC=>exact fin (h.aaG (hw ⟨o,hD⟩) hD hg)
 | .gM o,hD,⟨_,vy,qP,v,zs,X,Y,e,_⟩=>rw[e] at hs;cases hs
 | .back (.node f),hD,fC=>exact fin (h.back hm hD hg)
 | .back .leaf,hD,fC=>exact absurd hD BO
 | .st k (n+1),hD,fC=>exact fin (h.atF hm hD hg)
 | .st .r0 0,hD,fC=>exact fin (h.r0 hm hD hg)
 | .st .k1 0,hD,fC=>exact fin (h.k1 hm hD hg)
 | .st .d1 0,hD,fC=>exact fin (h.d1 hm hD hg)
 | .st .d2 0,hD,fC=>exact fin (h.d2 hm hD hg)
 | .st .d3 0,hD,fC=>exact fin (h.d3 hm hD hg)
 | .st .d4 0,hD,fC=>exact fin (h.d4 hm hD hg)
 | .closer,hD,fC=>
  have jN:=h.sy.FU
  match cl,h,jN,Dy with
  |none,h,jN,_=>exact(jN _ (List.mem_of_getElem? hD)).elim
  |some (ic,c,n),h,⟨_,hu,_,_,_⟩,Dy=>
   have e:=hu i hD
   subst e
   obtain⟨K',lL,w',u,c',n',h1,h2,h3,h4⟩:=h.closer (sl:=sl) hm hg hs fun e=>Dy n (by rw[e])
   exact⟨K',lL,w',u,D,_,h1,h2,h3,rfl,rfl,Prod.Lex.right _ h4,fun _ h=> .inl h⟩
theorem Inv.awake(h:Inv E L K gs w t D pend cl main d0)(hm:gV E main):∀x∈gs,Go.Conc.awake x:=by
 intro x hx
 obtain⟨j,hj,rfl⟩:=Array.mem_iff_getElem.1 hx
 have hj':gs[j]?=some gs[j]:=Array.getElem?_eq_getElem hj
 intro k
 cases j with
 |zero=>
  rw[h.main] at hj'
  rw[←Option.some.inj hj']
  rcases hm with e| ⟨m,z,rfl⟩
  ·rw[e];simp
  simp[parked]
 |succ j=>
  have cU:j <D.length:=by have:=h.base.size;omega
  have hD:D[j]?=some D[j]:=List.getElem?_eq_getElem cU
  obtain⟨y,hy,fC⟩:=h.base.ok j _ hD
  rw[hj'] at hy
  rw[Option.some.inj hy]
  by_cases hb:∃o,D[j]= .gM o
  ·obtain⟨o,e⟩:=hb
   rw[e] at fC
   obtain⟨_,vy,qP,v,zs,X,Y,rfl,_⟩:=fC
   simp[parked]
  by_cases hc:D[j]= .closer
  ·have jN:=h.sy.FU
   match cl,jN with
   |none,jN=>
    have:=jN D[j] (List.mem_of_getElem? hD)
    rw[hc] at this
    exact this.elim
   |some (ic,c,n),⟨_,h2,_,⟨gc,Gt,qg⟩,_⟩=>
    have e:=h2 j (by rw[hD,hc])
    subst e
    rw[hj',hy] at Gt
    obtain rfl:=Option.some.inj Gt
    by_cases aiw:c= .blk
    ·subst aiw
     obtain⟨_,vy,arE,e⟩:=qg
     rw[e];simp
    rw[CK.uL qg aiw];simp
  rcases fC.running (fun o e=>hb ⟨o,e⟩) hc with e|e<;>rw[e]<;>simp
theorem Inv.le0(h:Inv E L K gs w t D pend cl main d0){s:St}(hl:s.le (K 0)):Inv E L (fS K 0 s) gs w t D pend cl main d0:=by
 have hle:∀j,(fS K 0 s j).le (K j):=fun j=>by
  by_cases e:j=0
  ·subst e;rw[aD];exact hl
  rw[aH _ _ e];exact St.le_refl _
 refine⟨⟨h.base.fit.le hle,h.base.size,fun k r hk=>?_,fun k hk b hb=>h.base.far k hk b ((hle k).knows hb),h.base.ops,h.base.same⟩,
  ⟨fun j hj=>h.sy.kW j ((hle j).knows hj),fun j hj=>h.sy.kC j ((hle j).knows hj),h.sy.lW,h.sy.lC,h.sy.ne,h.sy.norel,h.sy.plain,h.sy.said,h.sy.cells,h.sy.Dj,h.sy.chan,h.sy.bal,?_⟩,h.main,h.deaf⟩
 ·rw[aH _ _ (by omega)];exact h.base.ok k r hk
 have jN:=h.sy.FU
 match cl,jN with
 |none,jN=>exact jN
 |some (ic,c,n),⟨h1,h2,h3,⟨gc,Gt,qg⟩,h5⟩=>exact⟨h1,h2,h3,⟨gc,Gt,by rw[aH _ _ (by omega)];exact qg⟩,h5⟩
def TC(E:eo ι)(L:Nat→Option Obj)(Q:Machine→Outcome→World→Trace→Prop)(pend:Nat)(b:Bool)(os:List ι)(d0:Nat)(g:Goroutine)(s:St):Prop:=
 ∀K gs w t D cl sl,cl.isSome=b→Inv E L K gs w t D pend cl g d0→lf D=os→s.le (K 0)→Ends E.P Q (crowd gs w sl) t
theorem xG{b:Bool}{os:List ι}{s:St}(hs:g.status= .running)
 (h:∀K gs w t D cl sl m,cl.isSome=b→Inv E L K gs w t D pend cl g d0→lf D=os→K 0=s→stepT E.P m=runT E.P (crowd gs w sl) 0→Ends E.P Q m t)
 (iZ:b=true→pend=0∧d0=0∧(os=[]→∀pc,TL E.P (jT pc) L (JB E pc) Q g s)):TC E L Q pend b os d0 g s:=by
 intro K gs w t D cl sl hb hI ho hle
 have key:∀μ:List (au ι)×AZ,∀K gs w t sl,μ.2.isSome=b→Inv E L K gs w t μ.1 pend μ.2 g d0→lf μ.1=os→K 0=s→Ends E.P Q (crowd gs w sl) t:=by
  intro μ
  induction μ using (PLt.wf E.max).induction with
  |_ μ ih=>
   obtain⟨D,cl⟩:=μ
   intro K gs w t sl hb hI ho hK
   simp only at hb hI ho
   obtain⟨i,fx,d,TX,dE,H0,bX⟩:=crowd_pick (P:=E.P) (gs:=gs) (w:=w) (sl:=sl) (hI.awake (.inl hs)) ⟨0,g,hI.main,hs⟩
   have Aw:=hI.at d
   cases i with
   |zero=>exact h K gs _ t D cl TX _ hb Aw ho hK bX
   |succ i=>
    by_cases Ir:D[i]?=some (.back .leaf)
    ·obtain⟨n,h1,h2,h3⟩:=hI.norm Ir
     exact ih (_,cl) (Prod.Lex.left _ _ h3) _ gs w t sl hb h1 (h2.trans ho) (by rw[aH _ _ (by omega)];exact hK)
    by_cases hc:∃n,cl=some (i,.run .leaf,n)
    ·obtain⟨n,e⟩:=hc
     subst e
     obtain⟨hp,hd,hT⟩:=iZ (by rw[←hb];rfl)
     subst hp
     obtain⟨lL,w',u,q,hr,hL,h0,hdd,hG,tO⟩:=Aw.close (sl:=TX) (main':=g) (fun a a' w' _ _ _=>by
      unfold Go.Conc.woken
      split
      ·exact again_running _ (.inl hs)
      rfl) dE
     exact Ends.next (bX.trans hr) (hT (ho.symm.trans tO) (t.size+1) _ lL w' _ q TX hL h0 (by simp only[if_true];rw[hK];exact St.le_refl _) (by rw[hdd];exact hd) hG)
    obtain⟨K',lL,w',u,D',cl',hr,OS,lG,JH,gh,cU,_⟩:=Aw.other (sl:=TX) (.inl hs) dE H0 Ir (fun n e=>hc ⟨n,e⟩) (fun _=>hs)
    exact Ends.next (bX.trans hr) (ih (D',cl') cU K' lL w' _ TX (gh.trans hb) OS (JH.trans ho) (lG.trans hK))
 exact key (D,cl) _ gs w t sl hb (hI.le0 hle) ho (aD _ _ _)
end
section
variable {ι:Type} {E:eo ι} {L:Nat→Option Obj} {Q:Machine→Outcome→World→Trace→Prop} {g:Goroutine} {s:St}
theorem XA(Wh:L E.Ch=none){x:Goroutine}(hx:x.status= .running)(bX:∀w,aT s w→stepG E.P true x w= .comm g #[rcase E.Ch z] true (.recv true) w #[])
 (nE:∀w,aT s w→(∀b o,L b=some o→w.heap[b]?=some o)→aT s' w) (AW:∀b,s'.knows b→L b≠none∨s.knows b)
 (hT:TL E.P eQ (fun _=>none) (Calm E.os E.out) Q (Conc.served g (.tuple #[z,.bool false])) s'):TL E.P (jT pc) L (JB E pc) Q x s:=by
 refine Ns (SY pc) (IC E pc) hx fun K gs w t q sl m hL h0 hK hd hG hm _=>?_
 subst hK
 obtain⟨⟨sn,tm,hc⟩,hkC,aoD,aw6,aE5,ahj⟩:=hG
 have JI:partners (gs.setIfInBounds 0 ph) E.Ch true=[]:=partners_nil fun j y hy=>by
  rcases getElem?_stand gs _ _ _ hy with ⟨_,rfl⟩| ⟨hj,hy'⟩
  ·exact offersAt_ph _ _
  cases j with
  |zero=>exact absurd rfl hj
  |succ j=>
   have cU:j <q.length:=by have:=lt_size hy';have:=hL.size;omega
   obtain⟨y',d,hy2,hq,_⟩:=hL.ok j _ (List.getElem?_eq_getElem cU)
   rw[hy'] at hy2
   rw[Option.some.inj hy2]
   exact rE hq.status _ _
 have bY:=crowd_recv_closed (sl:=sl) h0 (by simpa using bX w (hL.fit.kz 0)) hc JI
 have e0:MemOp.ofEvents 0 x.frame.fn x.frame.place #[]= #[]:=rfl
 rw[e0,Array.empty_append] at bY
 generalize hu:(#[{g:=0,fn:=g.frame.fn,pos:=g.frame.place,act:= .recvClosed E.Ch}]:Trace)=u at bY
 have My:∀op∈u,op.g=0∧op.act= .recvClosed E.Ch:=by rw[←hu];intro op az;simp at az;subst az;exact⟨rfl,rfl⟩
 have Za:∀op∈u,op.act.touch?=none:=fun op az=>by rw[(My op az).2];rfl
 have Sz:∀op∈u,∀m,op.act≠ .mark m:=fun op az m=>by rw[(My op az).2];simp
 have hr:(t++u)[t.size]?=some {g:=0,fn:=g.frame.fn,pos:=g.frame.place,act:= .recvClosed E.Ch}:=by rw[←hu];simp
 have ars:=lt_of_act? aoD
 have acn:HappensBefore (t++u) pc t.size:= .single (.inr ⟨.closed (c:=E.Ch) (by rw[act?_old ars];exact aoD) (by rw[act?_of hr]),(heard_old ars).2 aw6,⟨0,by simp[Trace.g?,hr],by rw[deaf_old (Nat.le_refl _)];exact hd⟩⟩)
 have dr:∀i n,q[i]?=some n→eQ (t++u) (i+1):=fun i n hi=>by
  obtain⟨y,d,hy,hq,hdd,hk⟩:=hL.ok i n hi
  rcases hk.2 with hk|hk
  ·exact hk.quiet Za
  intro p hp hct
  obtain⟨op,ho,hgo⟩:=Option.map_eq_some_iff.1 hp
  rcases getElem?_append_cases ho with ⟨VU,_⟩| ⟨_,jM⟩
  ·exact⟨t.size,by simp[Trace.g?,hr],(hb_app u (hk p (by rw[←g?_old (u:=u) VU];exact hp) ((counts_old VU).1 hct))).trans acn⟩
  rw[(My op jM).1] at hgo;omega
 have oT:=hL.fit.quiet (u:=u) (w':=w) E.Ch (fun j=>by
  by_cases e:j=0
  ·subst e;exact hkC
  exact hL.none j _ e) Wh (Nat.le_refl _) (fun _ _ _=>rfl) Za
 refine Ends.next (hm.trans bY) (hT (fS K 0 s') _ w _ q sl ⟨?_,by simp[hL.size],fun i n hi=>?_,fun i b hi hk=>?_,fun op az=>?_⟩ ?_ (by rw[aD];exact St.le_refl _) (by rw[gu _ _ _ Sz];exact hd) ⟨fun a=>(aE5 a).app fun op az=>Sz op az _,ahj⟩)
 ·refine oT.alone (i:=0) (fun j hj b=>hL.none j b hj) s' (nE w (hL.fit.kz 0) hL.fit.Fw) AW fun b hb p y hy T5 hyb=>?_
  obtain⟨op,ho,hyo⟩:=touch_of hy
  have cU:op.g <gs.size:=by
   rcases Array.mem_append.1 (mem_of_getElem? ho) with h'|h'
   ·exact hL.ops op h'
   rw[(My op h').1,hL.size];omega
  cases hgo:op.g with
  |zero=>have:=knows_own ho;rwa[hgo] at this
  |succ k=>
   have hk:k <q.length:=by have:=hL.size;omega
   obtain⟨j,hj,mT⟩:=dr k _ (List.getElem?_eq_getElem hk) p (by simp[Trace.g?,ho,hgo]) ⟨y,by simpa [touchAt] using hy,by cases hl:y.loc<;>simp_all[blk,Loc.isMemory],.inl (by rw[T5];simp)⟩
   obtain⟨z',FA,hzg⟩:=Option.map_eq_some_iff.1 hj
   exact⟨j,z',FA,hzg,.inr mT⟩
 ·obtain⟨y,d,hy,hq,hdd,hk⟩:=hL.ok i n hi
  exact⟨y,d,by rw[Array.getElem?_setIfInBounds_ne (by omega)];exact hy,hq,by rw[gu _ _ _ Sz];exact hdd,dr i n hi⟩
 ·rw[aH _ _ hi] at hk;exact hL.none i b hi hk
 ·rw[Array.size_setIfInBounds]
  rcases Array.mem_append.1 az with h'|h'
  ·exact hL.ops op h'
  rw[(My op h').1,hL.size];omega
 have:0 <gs.size:=by rw[hL.size];omega
 simp[this,finishComm_recv,recvd]
end
section
variable {ι:Type} {E:eo ι} {L:Nat→Option Obj} {K:Nat→St} {gs:Array Goroutine} {w w':World} {t:Trace} {D:List (au ι)} {pend d0:Nat} {cl:AZ} {main:Goroutine} {sl:Option (Nat×Nat)}
 {i:Nat} {Q:Machine→Outcome→World→Trace→Prop} {g:Goroutine} {s:St}
theorem setChan_at(w:World)(d c:Nat)(h:c <w.heap.size)(sn rc:Nat)(tm:Bool):
 ((w.at d).setChan c 0 #[] false sn rc tm).heap[c]?=some (.chan 0 #[] false sn rc tm)∧((w.at d).setChan c 0 #[] false sn rc tm).heap.size=w.heap.size∧
 ∀b,b≠c→((w.at d).setChan c 0 #[] false sn rc tm).heap[b]?=w.heap[b]?:=by
 refine⟨by simp[World.setChan,World.at,h],by simp[World.setChan,World.at],fun b hb=>by simp[World.setChan,World.at,Ne.symm hb]⟩
theorem Inv.alive(h:Inv E L K gs w t D 0 cl main d0)(iZ:cl≠none)(hn:∀o,au.gM o∉D):∃(i:Nat) (x:Goroutine),gs[i]?=some x∧x.status= .running:=by
 by_cases dr:∀r∈D,r.left=true∨r= .closer
 ·have jN:=h.sy.FU
  obtain⟨st,sm,_,nC⟩:=h.sy.cells
  match cl,jN,nC,iZ with
  |some (ic,c,n),⟨_,_,_,⟨gc,Gt,qg⟩,_⟩,nC,_=>
   refine⟨_,gc,Gt,CK.uL qg fun e=>?_⟩
   subst e
   have z:∀(f:au ι→Nat),(∀q d c,f (.leave q d c)=0)→f .closer=0→fE f D=0:=fun f h1 h2=>by
    unfold fE
    rw[List.sum_eq_zero_iff_forall_eq_nat]
    intro x hx
    obtain⟨r,hr,rfl⟩:=List.mem_map.1 hx
    rcases dr r hr with e|rfl
    ·cases r<;>first|exact h1 _ _ _|cases e
    exact h2
   have z1:=z au.cnt (fun _ _ _=>rfl) rfl
   have z4:=z au.c4 (fun _ _ _=>rfl) rfl
   have z3:=z au.c3 (fun _ _ _=>rfl) rfl
   have z2:=z au.c2 (fun _ _ _=>rfl) rfl
   rw[z1,z4,z3,z2] at nC
   simp only[Option.map_some] at nC
   generalize ho:some CK.blk=o at nC
   generalize h0:0+0=k at nC
   cases nC with
   |reg _ h2=>omega
   |sema _ h2=>cases ho;exact h2 rfl
   |over h1=>cases ho;exact h1.elim
   |_=>cases ho
 obtain⟨r,mo⟩:=Classical.not_forall.1 dr
 obtain⟨hr,EP⟩:=Classical.not_imp.1 mo
 have h1:¬r.left=true:=fun e=>EP (.inl e)
 have h2:r≠ .closer:=fun e=>EP (.inr e)
 obtain⟨k,hk⟩:=List.getElem?_of_mem hr
 obtain⟨x,hx,fC⟩:=h.base.ok k r hk
 refine⟨_,x,hx,?_⟩
 cases r with
 |leave q d c=>exact absurd rfl h1
 |work o tr=>exact pf.running (fun _ _ y=>y.1) fC.2
 |gM o=>exact absurd hr (hn o)
 |back tr=>exact pf.running (fun _ _ y=>eo.pure.running (fun _ z=>z.1) y) fC.2
 |st k n=>exact Pure.running (WK.running k) fC.2.2.1
 |closer=>exact absurd rfl h2
theorem Inv.aaH(h:Inv E L K gs w t D pend cl (parked g #[rcase E.Ch z] (.recv true)) 0)(iZ:cl≠none){o:ι}{gw:Goroutine}(hi:D[i]?=some (.work o .leaf)) (hg:gs[i+1]?=some gw):
 ∃K' lL w' u D' v X a b,runT E.P (crowd gs w sl) (i+1)=(.next (crowd lL w' sl),u)∧Inv E L K' lL w' (t++u) D' pend cl (Conc.served g (.tuple #[v,.bool true])) 0∧K' 0=⟨(K 0).ro,X++(K 0).rw⟩∧
  E.Xi o v X∧lf D=a++o::b∧lf D'=a++b:=by
 obtain⟨fx,dE,fC⟩:=h.base.ok i _ hi
 obtain rfl:fx=gw:=by rw[hg] at dE;exact(Option.some.inj dE).symm
 obtain⟨hd,hs,qP,v,zs,X,Y,hXY,oR,bX,tr,iL,hle,yS⟩:=fC
 obtain⟨sn,rc,tm,hc⟩:=h.sy.chan
 have vw:=h.base.size
 have aQe:partners (gs.setIfInBounds (i+1) ph) E.Ch false=[(0,0)]:=by
  have h0:(gs.setIfInBounds (i+1) ph)[0]?=some (parked g #[rcase E.Ch z] (.recv true)):=stand_get (by omega) h.main
  rw[partners_one h0 fun k x hk hx=>?_]
  ·rw[offersAt_parked_recv];simp
  rcases getElem?_stand gs _ _ _ hx with ⟨_,rfl⟩| ⟨_,mj⟩
  ·exact offersAt_ph _ _
  cases k with
  |zero=>exact absurd rfl hk
  |succ k=>
   rcases h.offers mj with ⟨o',g',v',zs',_,rfl⟩|hn
   ·exact offersAt_parked_send' _ _ _ _ _ _
   exact hn _ _
 have bY:=crowd_send_meets (sl:=sl) hg (by simpa using bX w (h.base.fit.kz _)) hc (by omega) h.main aQe
 have e0:MemOp.ofEvents (i+1) fx.frame.fn fx.frame.place #[]= #[]:=rfl
 rw[e0,Array.empty_append] at bY
 obtain⟨a,b,ha,hb⟩:=Dc (r':=au.back tr) rfl hi (o:=o) rfl
 have hwc:=setChan_at w w.drawn E.Ch (lt_size hc) (sn+1) (rc+1) tm
 refine⟨_,_,_,_,_,v,X,a,b,bY,h.meet iZ hi (.inl rfl) hd hXY hle yS (by simp) ?_ ?_ (fun k h1 h2=>?_) hc hwc.1 hwc.2.1 hwc.2.2 ⟨rfl,rfl⟩ ⟨rfl,rfl⟩ ⟨rfl,rfl⟩ ⟨rfl,rfl⟩ ⟨rfl,rfl⟩,aD _ _ _,oR,ha,hb⟩
 ·rw[Array.getElem?_setIfInBounds_ne (by omega),Array.getElem?_setIfInBounds_self_of_lt (by omega)]
  rw[finishComm_recv];rfl
 ·rw[Array.getElem?_setIfInBounds_self_of_lt (by have:=lt_size hg;simpa using this)]
  rw[finishComm_send]
 rw[Array.getElem?_setIfInBounds_ne (Ne.symm h2),Array.getElem?_setIfInBounds_ne (Ne.symm h1)]
theorem Rg{os:List ι}
 (MB:∀a o b v X,os=a++o::b→E.Xi o v X→TC E L Q 0 true (a++b) 0 (Conc.served g (.tuple #[v,.bool true])) ⟨s.ro,X++s.rw⟩)
 (qI:os=[]→∀pc,TL E.P (jT pc) L (JB E pc) Q {parked g #[rcase E.Ch z] (.recv true) with status:= .running} s):
 ∀(μ:List (au ι)×AZ) K gs w t sl,μ.2.isSome=true→Inv E L K gs w t μ.1 0 μ.2 (parked g #[rcase E.Ch z] (.recv true)) 0→lf μ.1=os→K 0=s→(∀o,au.gM o∉μ.1)→Ends E.P Q (crowd gs w sl) t:=by
 intro μ
 induction μ using (PLt.wf E.max).induction with
 |_ μ ih=>
  obtain⟨D,cl⟩:=μ
  intro K gs w t sl hb hI ho hK hn
  simp only at hb hI ho hn
  have iZ:cl≠none:=fun e=>by rw[e] at hb;cases hb
  have Sx:gV E (parked g #[rcase E.Ch z] (.recv true)):= .inr ⟨g,z,rfl⟩
  obtain⟨i,fx,d,TX,dE,H0,bX⟩:=crowd_pick (P:=E.P) (gs:=gs) (w:=w) (sl:=sl) (hI.awake Sx) (hI.alive iZ hn)
  have Aw:=hI.at d
  cases i with
  |zero=>rw[hI.main] at dE;rw[←Option.some.inj dE] at H0;cases H0
  |succ i=>
   by_cases Ir:D[i]?=some (.back .leaf)
   ·obtain⟨n,h1,h2,h3⟩:=hI.norm Ir
    refine ih (_,cl) (Prod.Lex.left _ _ h3) _ gs w t sl hb h1 (h2.trans ho) (by rw[aH _ _ (by omega)];exact hK) fun o hm=>?_
    rcases List.mem_or_eq_of_mem_set hm with h'|h'
    ·exact hn o h'
    cases h'
   by_cases hc:∃n,cl=some (i,.run .leaf,n)
   ·obtain⟨n,e⟩:=hc
    subst e
    obtain⟨lL,w',u,q,hr,hL,h0,hdd,hG,tO⟩:=Aw.close (sl:=TX) (main':={parked g #[rcase E.Ch z] (.recv true) with status:= .running}) (fun a a' w' hmw nE ⟨sn,tm,tB⟩=>by
     have:(mayWake E.P a&&a'.status != .blocked&&a'.status != .waiting)=true:=by rcases nE with e|e<;>simp[hmw,e]
     unfold Go.Conc.woken
     rw[if_pos this]
     exact again_recv_closed tB) dE
    exact Ends.next (bX.trans hr) (qI (ho.symm.trans tO) (t.size+1) _ lL w' _ q TX hL h0 (by simp only[if_true];rw[hK];exact St.le_refl _) (by rw[hdd]) hG)
   by_cases FG:∃o,D[i]?=some (.work o .leaf)
   ·obtain⟨o,hi⟩:=FG
    obtain⟨K',lL,w',u,D',v,X,a,b,hr,OS,lG,oR,ha,mT⟩:=Aw.aaH (sl:=TX) iZ hi dE
    refine Ends.next (bX.trans hr) (MB a o b v X (ho.symm.trans ha) oR K' lL w' _ D' cl TX hb OS mT ?_)
    rw[lG,hK];exact St.le_refl _
   obtain⟨K',lL,w',u,D',cl',hr,OS,lG,JH,gh,cU,hsb⟩:=Aw.other (sl:=TX) Sx dE H0 Ir (fun n e=>hc ⟨n,e⟩) (fun hx=>absurd hx FG)
   refine Ends.next (bX.trans hr) (ih (D',cl') cU K' lL w' _ TX (gh.trans hb) OS (JH.trans ho) (lG.trans hK) fun o hm=>?_)
   rcases hsb o hm with h'|h'
   ·exact hn o h'
   cases h'
theorem XG{os:List ι}(hs:g.status= .running)(bX:∀w,aT s w→stepG E.P true g w= .comm g #[rcase E.Ch z] true (.recv true) w #[])
 (MB:∀a o b v X,os=a++o::b→E.Xi o v X→TC E L Q 0 true (a++b) 0 (Conc.served g (.tuple #[v,.bool true])) ⟨s.ro,X++s.rw⟩)
 (qI:os=[]→∀pc,TL E.P (jT pc) L (JB E pc) Q g s∧TL E.P (jT pc) L (JB E pc) Q {parked g #[rcase E.Ch z] (.recv true) with status:= .running} s):TC E L Q 0 true os 0 g s:=by
 refine xG hs (fun K gs w t D cl sl m hb hI ho hK hm=>?_) fun _=>⟨rfl,rfl,fun h pc=>(qI h pc).1⟩
 have iZ:cl≠none:=fun e=>by rw[e] at hb;cases hb
 obtain⟨sn,rc,tm,hc⟩:=hI.sy.chan
 have hgo:=bX w (hK▸hI.base.fit.kz 0)
 have e0:MemOp.ofEvents 0 g.frame.fn g.frame.place #[]= #[]:=rfl
 by_cases ek:partners (gs.setIfInBounds 0 ph) E.Ch true=[]
 ·have bY:=crowd_waits (sl:=sl) hI.main (by simpa using hgo) (fun cc u5=>by
   simp only[List.mem_toArray,List.mem_singleton] at u5
   subst u5
   exact ways_recv_none hc ek)
  rw[e0] at bY
  have vw:=hI.base.size
  refine Ends.next (hm.trans bY) (Rg MB (fun h pc=>(qI h pc).2) (D,cl) K _ w _ sl hb ⟨⟨?_,by simp[vw],fun k r hk=>?_,fun k hk=>hI.base.far k (by simpa using hk),fun op az=>?_,hI.base.same⟩,?_,?_,?_⟩ ho hK fun o hm=>?_)
  ·rw[Array.append_empty];exact hI.base.fit
  ·obtain⟨x,hx,fC⟩:=hI.base.ok k r hk
   exact⟨x,by rw[Array.getElem?_setIfInBounds_ne (by omega)];exact hx,by rw[Array.append_empty];exact fC⟩
  ·rw[Array.append_empty] at az;rw[Array.size_setIfInBounds];exact hI.base.ops op az
  ·rw[Array.append_empty]
   refine⟨hI.sy.kW,hI.sy.kC,hI.sy.lW,hI.sy.lC,hI.sy.ne,hI.sy.norel,hI.sy.plain,hI.sy.said,hI.sy.cells,hI.sy.Dj,hI.sy.chan,hI.sy.bal,?_⟩
   have jN:=hI.sy.FU
   match cl,jN with
   |none,jN=>exact jN
   |some (ic,c,n),⟨h1,h2,h3,⟨gc,Gt,qg⟩,h5⟩=>exact⟨h1,h2,h3,⟨gc,by rw[Array.getElem?_setIfInBounds_ne (by omega)];exact Gt,qg⟩,h5⟩
  ·rw[Array.getElem?_setIfInBounds_self_of_lt (by omega)]
  ·rw[Array.append_empty];exact hI.deaf
  obtain⟨k,hk⟩:=List.getElem?_of_mem hm
  obtain⟨x,hx,_,vy,qP,v,zs,X,Y,rfl,_⟩:=hI.base.ok k _ hk
  have:((k+1,0):Nat×Nat)∈partners (gs.setIfInBounds 0 ph) E.Ch true:=mem_partners.2 ⟨_,stand_get (by omega) hx,by rw[offersAt_parked_send];simp⟩
  rw[ek] at this;cases this
 obtain⟨j,gj,vj,zj,shj,d,hj0,hj,bY⟩:=crowd_recv_meets_some (sl:=sl) hI.main (by simpa using hgo) hc ek fun j k PY=>by
  obtain⟨x,hx,hk⟩:=mem_partners.1 PY
  rcases getElem?_stand gs _ _ _ hx with ⟨_,rfl⟩| ⟨hj0,mj⟩
  ·rw[offersAt_ph] at hk;cases hk
  cases j with
  |zero=>exact absurd rfl hj0
  |succ j=>
   rcases hI.offers mj with ⟨o',g',v',zs',_,rfl⟩|hn
   ·rw[offersAt_parked_send] at hk
    simp at hk
    exact⟨hk,by omega,_,_,_,_,mj⟩
   rw[hn] at hk;cases hk
 rw[e0,Array.empty_append] at bY
 cases j with
 |zero=>exact absurd rfl hj0
 |succ i=>
  rcases hI.offers hj with ⟨o,qP,v,zs,hi,e⟩|hn
  ·obtain⟨x,hx,As,vy,aG1,v',zs',X,Y,e',hXY,oR,_,tr,iL,hle,yS⟩:=hI.base.ok i _ hi
   obtain rfl:x=parked gj #[scase E.Ch vj zj] shj:=by rw[hj] at hx;exact(Option.some.inj hx).symm
   have hv:vj=v':=by
    have:=congrArg Goroutine.offers e'
    simp only[parked,scase,Option.some.injEq,Prod.mk.injEq,Array.mk.injEq,List.cons.injEq,CommCase.mk.injEq] at this
    exact this.1.1.2.1
   have hsv:gj.finishComm E.P #[scase E.Ch vj zj] shj 0 undef false=Conc.served aG1 undef:=by
    have h1:shj= .send:=by
     have:=congrArg Goroutine.offers e'
     simp only[parked,Option.some.injEq,Prod.mk.injEq] at this
     exact this.2
    subst h1
    rw[finishComm_send]
    have h2:=congrArg (fun x:Goroutine=>Conc.served x undef) e'
    exact h2
   subst hv
   obtain⟨a,b,ha,mT⟩:=Dc (r':=au.back tr) rfl hi (o:=o) rfl
   have hwc:=setChan_at w d E.Ch (lt_size hc) (sn+1) (rc+1) tm
   have vw:=hI.base.size
   refine Ends.next (hm.trans bY) (MB a o b vj X (ho.symm.trans ha) oR _ _ _ _ (D.set i (.back tr)) cl sl hb
    (hI.meet iZ hi (.inr rfl) As hXY hle yS (by simp) ?_ ?_ (fun k h1 h2=>?_) hc hwc.1 hwc.2.1 hwc.2.2 ⟨rfl,rfl⟩ ⟨rfl,rfl⟩ ⟨rfl,rfl⟩ ⟨rfl,rfl⟩ ⟨rfl,rfl⟩) mT ?_)
   ·rw[Array.getElem?_setIfInBounds_self_of_lt (by simp;omega),finishComm_recv];rfl
   ·rw[Array.getElem?_setIfInBounds_ne (by omega),Array.getElem?_setIfInBounds_self_of_lt (lt_size hj),hsv]
   ·rw[Array.getElem?_setIfInBounds_ne (Ne.symm h1),Array.getElem?_setIfInBounds_ne (Ne.symm h2)]
   rw[aD,hK];exact St.le_refl _
  have:(0:Nat)∈offersAt (parked gj #[scase E.Ch vj zj] shj) E.Ch true:=by rw[offersAt_parked_send];simp
  rw[hn] at this;cases this
end
section
variable {ι:Type} {E:eo ι} {L:Nat→Option Obj} {K:Nat→St} {gs:Array Goroutine} {w w':World} {t:Trace} {D:List (au ι)} {pend d0:Nat} {cl:AZ} {sl:Option (Nat×Nat)}
 {Q:Machine→Outcome→World→Trace→Prop} {g g':Goroutine} {s:St} {es:Array Event}
theorem Inv.go0(h:Inv E L K gs w t D pend cl g d0)(hgo:stepG E.P true g w= .go g' w' es)(Se:Xj w w')(bL:¬s'.knows E.Wg)(oC:¬s'.knows E.Ch)(vL:w'.heap[E.Ch]?=w.heap[E.Ch]?)
 (oT:Fit L (fS K 0 s') w' (t++MemOp.ofEvents 0 g.frame.fn g.frame.place es))
 (lF:∀op∈MemOp.ofEvents 0 g.frame.fn g.frame.place es,∀x,op.act.touch?=some x→E.At x→x.kind≠ .plain∧(x.kind= .said→cl=none))
 (iP:∀op∈MemOp.ofEvents 0 g.frame.fn g.frame.place es,∀a,op.act≠ .mark (.release a)) 
 (n6:∀cl',AO cl cl'→∃st sm,WgAt E.ty E.Wg w' st sm∧Md E.max (fE au.cnt D+mC) (fE au.c4 D) (fE au.c3 D) (fE au.c2 D) (cl'.map (·.2.1)) st sm) (Sw:fE au.cnt D+mC≤E.max):
 ∃lL u cl',runT E.P (crowd gs w sl) 0=(.next (crowd lL w' sl),u)∧Inv E L (fS K 0 s') lL w' (t++u) D mC cl' g' (deafBehind d0 es)∧cl'.isSome=cl.isSome:=by
 have My:∀op∈MemOp.ofEvents 0 g.frame.fn g.frame.place es,op.g=0:=fun op az=>Go.ConcR.g_of_ofEvents op az
 have bY:=runT_crowd_go (P:=E.P) (sl:=sl) (i:=0) h.main (by simpa using hgo)
 have hdo:Deaf (t++MemOp.ofEvents 0 g.frame.fn g.frame.place es) 0=deafBehind d0 es:=by rw[Deaf_own,h.deaf]
 generalize MemOp.ofEvents 0 g.frame.fn g.frame.place es=u at*
 obtain⟨sn,rc,tm,hc⟩:=h.sy.chan
 have tB:w'.heap[E.Ch]?=some (.chan 0 #[] false sn rc tm):=by rw[vL];exact hc
 have ek:∀k,∀op∈u,op.g≠k+1:=fun k op az=>by rw[My op az];omega
 have JO:∀b,¬s'.knows b→(∀j,¬(K j).knows b)→∀j,¬(fS K 0 s' j).knows b:=fun b h1 h2 j=>by
  by_cases e:j=0
  ·subst e;rw[aD];exact h1
  rw[aH _ _ e];exact h2 j
 obtain⟨cl',FG,jN⟩:∃cl',AO cl cl'∧ak9 E (fS K 0 s') ((gs.map (woken E.P g g' w')).setIfInBounds 0 g') (t++u) D cl':=by
  have jN:=h.sy.FU
  match cl,jN with
  |none,jN=>exact⟨none,.same _,jN⟩
  |some (ic,c,n),⟨h1,h2,h3,⟨gc,Gt,qg⟩,h5⟩=>
   obtain⟨c',n',hw,axH,_,hdc⟩:=CK.tries (ic:=ic) qg g g' w'
   refine⟨some (ic,c',n'),hw,h1,h2,by rw[iy _ _ (ek ic),hdc];exact h3,⟨_,gx (by omega) Gt,by rw[aH _ _ (by omega)];exact axH⟩,fun⟨tr,e⟩=>?_⟩
   subst e
   cases hw with
   |same=>
    obtain⟨q,a1,a2,a3,a4⟩:=h5 ⟨tr,rfl⟩
    have hq:=lt_of_act? a1
    exact⟨q,by rw[act?_old hq];exact a1,by rw[g?_old hq];exact a2,(heard_old hq).2 a3,fun i r hi hcu=>let ⟨p,hp,Zb⟩:=a4 i r hi hcu;⟨p,RelBy.other hp (ek i),Zb⟩⟩
 refine⟨_,u,cl',bY,⟨⟨oT,by simp[h.base.size],fun k r hk=>?_,fun k hk b hb=>?_,fun op az=>?_,⟨Se.1.trans h.base.same.1,Se.2.trans h.base.same.2⟩⟩,
  ⟨JO _ bL h.sy.kW,JO _ oC h.sy.kC,h.sy.lW,h.sy.lC,h.sy.ne,fun a=>(h.sy.norel a).app fun op az=>iP op az a,fun j hj p x hx hb hk=>?_,?_,n6 cl' FG,Sw,⟨sn,rc,tm,tB⟩,fun a b c hx=>h.sy.bal a b c (by rw[←vL];exact hx),jN⟩,?_,hdo⟩,by cases FG<;>rfl⟩
 ·obtain⟨x,hx,fC⟩:=h.base.ok k r hk
  rw[aH _ _ (by omega)]
  have abP:=fC.other (ek k)
  by_cases Ue:r= .closer
  ·subst Ue;exact⟨_,gx (by omega) hx,trivial⟩
  exact⟨x,by rw[gx (by omega) hx,fC.woken Ue fun _=>⟨sn,rc,tm,tB⟩],abP⟩
 ·rw[Array.size_setIfInBounds,Array.size_map] at hk
  have:=h.base.size
  rw[aH _ _ (by omega)] at hb
  exact h.base.far k hk b hb
 ·rw[Array.size_setIfInBounds,Array.size_map]
  rcases Array.mem_append.1 az with h'|h'
  ·exact h.base.ops op h'
  rw[My op h',h.base.size];omega
 ·rcases bH hx with ⟨_,mj⟩| ⟨_,op,T9,_,yP⟩
  ·exact(h.sy.plain j hj p x mj hb hk).app u
  exact absurd hk (lF op T9 x yP hb).1
 ·have PV:=h.sy.said
  match cl,cl',FG,PV,lF with
  |none,_,.same _,PV,_=>
   intro p x hx hb hk
   rcases bH hx with ⟨_,mj⟩| ⟨hp,op,T9,az,yP⟩
   ·exact(PV p x mj hb hk).app u
   exact Du My hp az
  |some (ic,c,n),_,.same _,PV,lF=>
   intro he p x hx hb hk
   rcases bH hx with ⟨_,mj⟩| ⟨_,op,T9,_,yP⟩
   ·exact(PV he p x mj hb hk).app u
   exact absurd ((lF op T9 x yP (.inl hb)).2 hk) (by simp)
  |_,_,.up ic,_,_=>exact fun he=>he.elim
 have:=h.base.size
 rw[Array.getElem?_setIfInBounds_self_of_lt (by simp;omega)]
theorem Inv.Jc(h:Inv E L K gs w t D pend cl g d0)(hw:w'.heap[E.Wg]?=w.heap[E.Wg]?):∀cl',AO cl cl'→∃st sm,WgAt E.ty E.Wg w' st sm∧Md E.max (fE au.cnt D+pend) (fE au.c4 D) (fE au.c3 D) (fE au.c2 D) (cl'.map (·.2.1)) st sm:=by
 intro cl' FG
 obtain⟨st,sm,ha,hm⟩:=h.sy.cells
 exact⟨st,sm,by unfold WgAt;rw[hw];exact ha,hm.asL FG⟩
def TM(E:eo ι)(L:Nat→Option Obj)(Q:Machine→Outcome→World→Trace→Prop)(pend:Nat)(b:Bool)(os:List ι)(d0:Nat)(g:Goroutine)(s:St):Prop:=
 TC E L Q pend b os d0 g s∧(b=true→os=[]→∀pc,TL E.P (jT pc) L (JB E pc) Q g s)
theorem TC.mono{b:Bool}{os:List ι}(hl:s.le s')(h:TC E L Q pend b os d0 g s):TC E L Q pend b os d0 g s':=
 fun K gs w t D cl sl hb hI ho hle=>h K gs w t D cl sl hb hI ho (hl.trans hle)
theorem fA(b:Bool)(os:List ι)(hb:b=true→pend=0):Closed E.P true (TM E L Q pend b os 0) where
 step:=fun g s hs h=>by
  have hL:b=true→os=[]→∀pc,TL E.P (jT pc) L (JB E pc) Q g s:=fun e ho pc=>
   (KX (SY pc) (IC E pc) Q).step g s hs fun w ha=>let ⟨g',w',es,s',h1,h2,h3,h4⟩:=h w ha;⟨g',w',es,s',h1,h2,h3,h4.2 e ho pc⟩
  refine⟨xG hs (fun K gs w t D cl sl m iZ hI ho hK hm=>?_) fun e=>⟨hb e,rfl,fun ho pc=>hL e ho pc⟩,hL⟩
  subst hK
  obtain⟨g',w',es,s',hgo,_,ht,hT,_⟩:=h w (hI.base.fit.kz 0)
  obtain⟨k1,k2,k3,k4,k5,k6⟩:=hI.sy.By ht g.frame.fn g.frame.place
  obtain⟨lL,u,cl',hr,Aw,V7⟩:=hI.go0 (sl:=sl) hgo ⟨ht.os,ht.output⟩ k1 k2 k4 (hI.base.fit.own ht _ _) (fun op az x hx sB=>absurd sB (k5 op az x hx)) k6 (hI.Jc k3) hI.sy.Dj
  rw[ht.deaf] at Aw
  exact Ends.next (hm.trans hr) (hT _ lL w' _ D cl' sl (V7.trans iZ) Aw ho (by rw[aD];exact St.le_refl _))
 mono:=fun g s s' hl h=>⟨h.1.mono hl,fun e ho pc=>(h.2 e ho pc).mono hl⟩
theorem Md.opened{mx a b c:Nat}{o:Option CK}(h:Md mx n a b c o st sm)(ho:o=none):st=(n:Int)*KK∧sm=0:=by
 cases h with
 |start=>exact⟨rfl,rfl⟩
 |_=>cases ho
theorem Gc{b:Bool}{os:List ι}{d':Nat}(hs:g.status= .running)(hb:b=false)
 (h:∀w st sm,WgAt E.ty E.Wg w st sm→(b=false→st=((os.length+pend:Nat):Int)*KK∧sm=0)→os.length+pend≤E.max→∃w',stepG E.P true g w= .go g' w' es∧eW E w w'∧WgAt E.ty E.Wg w' (((os.length+mC:Nat):Int)*KK) 0)
 (Ap:∀e∈es,jk E e)(hd:deafBehind d0 es=d')(hp:os.length+pend≤E.max→os.length+mC≤E.max)(hT:TC E L Q mC b os d' g' s):TC E L Q pend b os d0 g s:=by
 subst hb
 refine xG hs (fun K gs w t D cl sl m iZ hI ho hK hm=>?_) fun e=>(by cases e)
 subst hK
 have hcn:cl=none:=by cases cl<;>simp_all
 subst hcn
 have jN:=hI.sy.FU
 have axw:∀D:List (au ι),(∀r∈D,r.early)→fE au.cnt D=(lf D).length∧fE au.c4 D=0∧fE au.c3 D=0∧fE au.c2 D=0:=by
  intro D
  induction D with
  |nil=>intro _;exact⟨rfl,rfl,rfl,rfl⟩
  |cons r D ih=>
   intro hr
   obtain⟨i1,i4,i3,i2⟩:=ih fun x hx=>hr x (by simp[hx])
   have:=hr r (by simp)
   simp only[fE,List.map_cons,List.sum_cons,lf,List.filterMap_cons] at*
   cases r<;>first|exact this.elim| (simp[au.cnt,au.c4,au.c3,au.c2,au.Yk,i1,i4,i3,i2];try omega)
 obtain⟨c1,c4,c3,c2⟩:=axw D jN
 rw[ho] at c1
 obtain⟨st,sm,ha,nC⟩:=hI.sy.cells
 have Kw:=hI.sy.Dj
 rw[c1] at Kw
 have bX:st=((os.length+pend:Nat):Int)*KK∧sm=0:=by
  rw[c1] at nC
  exact nC.opened rfl
 obtain⟨w',hgo,htu,u6⟩:=h w st sm ha (fun _=>bX) Kw
 have aER:=jk.ops Ap 0 g.frame.fn g.frame.place
 obtain⟨lL,u,cl',hr,Aw,V7⟩:=hI.go0 (sl:=sl) (s':=K 0) (mC:=mC) hgo htu.same (hI.sy.kW 0) (hI.sy.kC 0) (htu.block _ (Ne.symm hI.sy.ne)) (by rw[mB];exact hI.sy.B1 hI.base.fit (.inl rfl) htu Ap _ _)
  (fun op az x hx _=>by rw[((aER op az).2.2 x hx).2];exact⟨by simp,by simp⟩) (fun op az=>(aER op az).2.1) (fun cl' hw=>by
   cases hw
   rw[c1,c4,c3,c2]
   exact⟨_,_,u6,.start⟩) (by rw[c1];exact hp Kw)
 rw[hd] at Aw
 exact Ends.next (hm.trans hr) (hT _ lL w' _ D cl' sl (V7.trans iZ) Aw ho (by rw[aD];exact St.le_refl _))
end
section
variable {ι:Type} {E:eo ι} {L:Nat→Option Obj} {K:Nat→St} {gs:Array Goroutine} {w w':World} {t:Trace} {D:List (au ι)} {pend d0:Nat} {cl:AZ} {sl:Option (Nat×Nat)}
 {Q:Machine→Outcome→World→Trace→Prop} {g g' child:Goroutine} {s iL:St} {es:Array Event}
theorem vX(f:au ι→Nat)(D:List (au ι))(r:au ι):fE f (D++[r])=fE f D+f r:=by simp[fE]
theorem Inv.spawn(h:Inv E L K gs w t D pend none g 0)(hrw:(K 0).rw=[])(bX:stepG E.P true g w= .spawn g' child w #[])(hle:iL.le (K 0)){r:au ι}{cl':AZ} 
 (hr:r.left=false)(fC:∀t',Deaf t' gs.size=0→oh E t' gs.size iL child r)
 (hn:r.cnt+mC=pend)(h4:r.c4=0)(h3:r.c3=0)(h2:r.c2=0)
 (iZ:(cl'=none∧r.early)∨(∃n,cl'=some (D.length,.kd,n)∧r= .closer∧CK.at E iL child n .kd)):
 ∃lL u,runT E.P (crowd gs w sl) 0=(.next (crowd lL w sl),u)∧Inv E L (fS K gs.size iL) lL w (t++u) (D++[r]) mC cl' g' 0∧0 <gs.size:=by
 have vw:=h.base.size
 have bY:=runT_crowd_spawn (P:=E.P) (sl:=sl) (i:=0) h.main (by simpa using bX)
 have e0:MemOp.ofEvents 0 g.frame.fn g.frame.place #[]= #[]:=rfl
 rw[e0] at bY
 generalize hx:({g:=0,fn:=g.frame.fn,pos:=g.frame.place,act:= .go gs.size}:MemOp)=x at bY
 generalize hy:({g:=gs.size,fn:=child.frame.fn,pos:=g.frame.place,act:= .start}:MemOp)=y at bY
 have ex:x.g=0∧x.act= .go gs.size:=by rw[←hx];exact⟨rfl,rfl⟩
 have ey:y.g=gs.size∧y.act= .start:=by rw[←hy];exact⟨rfl,rfl⟩
 have eu:((#[]:Array MemOp).push x).push y= #[x,y]:=rfl
 rw[eu] at bY
 have hq:∀op∈ #[x,y],op.act.touch?=none:=by intro op az;simp at az;rcases az with rfl|rfl<;>simp[ex.2,ey.2,MemAct.touch?]
 have Sz:∀op∈ #[x,y],∀m,op.act≠ .mark m:=by intro op az;simp at az;rcases az with rfl|rfl<;>simp[ex.2,ey.2]
 have hg:∀op∈ #[x,y],op.g=0∨op.g=gs.size:=by intro op az;simp at az;rcases az with rfl|rfl<;>simp[ex.1,ey.1]
 have OF:Deaf t gs.size=0:=ConcN.Deaf_absent fun i op ho e=>by have:=h.base.ops op (mem_of_getElem? ho);omega
 have As:∀k,Deaf (t++ #[x,y]) k=Deaf t k:=fun k=>gu t k _ Sz
 have aid:∀p,Knows t 0 p→Knows (t++ #[x,y]) gs.size p:=fun p hp=>ConcN.fork_knows ex ey h.deaf OF hp
 have oT:=h.base.fit.quiet (u:= #[x,y]) (w':=w) E.Ch h.sy.kC h.sy.lC (Nat.le_refl _) (fun _ _ _=>rfl) hq
 have MA:iL.rw=[]:=by
  obtain⟨R,hR,_⟩:=hle
  rw[hrw] at hR
  have:=List.append_eq_nil_iff.1 (List.nil_perm.1 hR)
  exact this.1
 have BL:∀b o,iL.ro b=some o→(K 0).ro b=some o:=fun b o hb=>by
  obtain⟨R,hR,h2⟩:=hle
  rw[hrw] at hR
  have:=List.append_eq_nil_iff.1 (List.nil_perm.1 hR)
  rcases h2 b o hb with h3|h3
  ·exact h3
  rw[this.2] at h3;cases h3
 have aie:=oT.share (i:=0) (n:=gs.size) (by omega) iL MA BL fun b hb p z hz hzb hzw=>by
  rcases bH hz with ⟨_,FA⟩| ⟨_,op,hm,_,hzo⟩
  ·refine aid p (h.base.fit.rC 0 b ?_ p z FA hzb hzw)
   cases mT:iL.ro b with
   |none=>exact absurd mT hb
   |some o=>rw[BL b o mT];simp
  rw[hq op hm] at hzo;cases hzo
 have JO:∀b,(∀j,¬(K j).knows b)→∀j,¬(fS K gs.size iL j).knows b:=fun b hb j hk=>by
  by_cases e:j=gs.size
  ·subst e;rw[aD] at hk;exact hb 0 (hle.knows hk)
  rw[aH _ _ e] at hk;exact hb j hk
 have jN:=h.sy.FU
 have oS:∀ {k z},(D++[r])[k]?=some z→(k <D.length∧D[k]?=some z)∨(k=D.length∧z=r):=fun {k z} hk=>by
  rcases Nat.lt_trichotomy k D.length with cU|e|hgt
  ·rw[List.getElem?_append_left cU] at hk;exact .inl ⟨cU,hk⟩
  ·subst e;rw[List.getElem?_append_right (Nat.le_refl _)] at hk;simp at hk;exact .inr ⟨rfl,hk.symm⟩
  rw[List.getElem?_eq_none (by simp;omega)] at hk;cases hk
 have hgs:∀k,k≠0→k <gs.size→((gs.setIfInBounds 0 g').push child)[k]?=gs[k]?:=fun k h0 cU=>by
  rw[Array.getElem?_push_lt (by simpa using cU),←Array.getElem?_eq_getElem,Array.getElem?_setIfInBounds_ne (Ne.symm h0)]
 have hgn:((gs.setIfInBounds 0 g').push child)[gs.size]?=some child:=by
  rw[Array.getElem?_push,if_pos (by simp)]
 refine⟨_,_,bY,⟨⟨aie,by simp[vw],fun k z hk=>?_,fun k hk b hb=>?_,fun op az=>?_,h.base.same⟩,
  ⟨JO _ h.sy.kW,JO _ h.sy.kC,h.sy.lW,h.sy.lC,h.sy.ne,fun a=>(h.sy.norel a).app fun op az=>Sz op az _,fun j hj p z hz hzb hzk=>?_,?_,?_,?_,h.sy.chan,h.sy.bal,?_⟩,?_,by rw[As];exact h.deaf⟩,by omega⟩
 ·rcases oS hk with ⟨cU,ky⟩| ⟨rfl,rfl⟩
  ·obtain⟨q,hqk,aQl⟩:=h.base.ok k z ky
   exact⟨q,by rw[hgs _ (by omega) (by omega)];exact hqk,by rw[aH _ _ (by omega)];exact aQl.other fun op az=>by rcases hg op az with e|e<;>rw[e]<;>omega⟩
  refine⟨child,by rw[←vw];exact hgn,?_⟩
  rw[←vw,aD]
  exact fC _ (by rw[As];exact OF)
 ·rw[Array.size_push,Array.size_setIfInBounds] at hk
  rw[aH _ _ (by omega)] at hb
  exact h.base.far k (by omega) b hb
 ·rw[Array.size_push,Array.size_setIfInBounds]
  rcases Array.mem_append.1 az with h'|h'
  ·have:=h.base.ops op h';omega
  rcases hg op h' with e|e<;>rw[e]<;>omega
 ·rcases bH hz with ⟨_,FA⟩| ⟨_,op,hm,_,hzo⟩
  ·rcases hj with rfl| ⟨k,q,rfl,hk,hl⟩
   ·exact(h.sy.plain 0 (.inl rfl) p z FA hzb hzk).app _
   rcases oS hk with ⟨_,ky⟩| ⟨rfl,rfl⟩
   ·exact(h.sy.plain (k+1) (.inr ⟨k,q,rfl,ky,hl⟩) p z FA hzb hzk).app _
   rw[←vw];exact aid p (h.sy.plain 0 (.inl rfl) p z FA hzb hzk)
  rw[hq op hm] at hzo;cases hzo
 ·have PV:=h.sy.said
  rcases iZ with ⟨rfl,_⟩| ⟨n,rfl,_,_⟩
  ·intro p z hz hzb hzk
   rcases bH hz with ⟨_,FA⟩| ⟨_,op,hm,_,hzo⟩
   ·exact(PV p z FA hzb hzk).app _
   rw[hq op hm] at hzo;cases hzo
  intro _ p z hz hzb hzk
  rcases bH hz with ⟨_,FA⟩| ⟨_,op,hm,_,hzo⟩
  ·rw[←vw];exact aid p (PV p z FA hzb hzk)
  rw[hq op hm] at hzo;cases hzo
 ·obtain⟨st,sm,ha,nC⟩:=h.sy.cells
  refine⟨st,sm,ha,?_⟩
  rw[vX,vX,vX,vX,h4,h3,h2,show fE au.cnt D+r.cnt+mC=fE au.cnt D+pend by omega]
  rcases iZ with ⟨rfl,_⟩| ⟨n,rfl,_,_⟩
  ·exact nC
  have z:∀(f:au ι→Nat),(∀r:au ι,r.early→f r=0)→fE f D=0:=fun f hf=>by
   unfold fE
   rw[List.sum_eq_zero_iff_forall_eq_nat]
   intro a u6
   obtain⟨q,Gp,rfl⟩:=List.mem_map.1 u6
   exact hf q (jN q Gp)
  have z4:=z au.c4 fun r hr=>by cases r<;>first|rfl|exact hr.elim
  have z3:=z au.c3 fun r hr=>by cases r<;>first|rfl|exact hr.elim
  have z2:=z au.c2 fun r hr=>by cases r<;>first|rfl|exact hr.elim
  obtain⟨rfl,rfl⟩:=nC.opened rfl
  rw[z4,z3,z2]
  exact .kd
 ·rw[vX];have:=h.sy.Dj;omega
 ·rcases iZ with ⟨rfl,T4⟩| ⟨n,rfl,rfl,qg⟩
  ·intro z hz
   rcases List.mem_append.1 hz with h'|h'
   ·exact jN z h'
   simp at h';subst h';exact T4
  refine⟨by simp,fun k hk=>?_,by rw[As,←vw];exact OF,⟨child,by rw[←vw];exact hgn,by rw[←vw,aD];exact qg⟩,fun⟨_,e⟩=>(by cases e)⟩
  rcases oS hk with ⟨_,ky⟩| ⟨e,_⟩
  ·exact(jN _ (List.mem_of_getElem? ky)).elim
  exact e
 rw[Array.getElem?_push_lt (by simp;omega),←Array.getElem?_eq_getElem,Array.getElem?_setIfInBounds_self_of_lt (by omega)]
theorem La{os:List ι}{o:ι}(hs:g.status= .running)(hrw:s.rw=[])(bX:∀w,aT s w→stepG E.P true g w= .spawn g' child w #[])(hw:eY E.P false (E.KR o) child s)
 (hT:TC E L Q 0 false (os++[o]) 0 g' s):TC E L Q 1 false os 0 g s:=by
 refine xG hs (fun K gs w t D cl sl m iZ hI ho hK hm=>?_) fun e=>(by cases e)
 subst hK
 have hcn:cl=none:=by cases cl<;>simp_all
 subst hcn
 obtain⟨tr,iL,hle,htr⟩:=hw
 obtain⟨lL,u,hr,Aw,h0⟩:=hI.spawn (sl:=sl) (r:= .work o tr) (cl':=none) (mC:=0) hrw (bX w (hI.base.fit.kz 0)) hle rfl (fun t' hd=>⟨hd,htr⟩) rfl rfl rfl rfl (.inl ⟨rfl,trivial⟩)
 exact Ends.next (hm.trans hr) (hT _ lL w _ _ none sl rfl Aw (by simp[lf,List.filterMap_append,au.Yk] at ho ⊢;exact ho) (by rw[aH _ _ (by omega)];exact St.le_refl _))
theorem Lc{os:List ι}(hs:g.status= .running)(hrw:s.rw=[])(bX:∀w,aT s w→stepG E.P true g w= .spawn g' child w #[])(hw:E.closes s child)
 (hT:TC E L Q 0 true os 0 g' s):TC E L Q 0 false os 0 g s:=by
 refine xG hs (fun K gs w t D cl sl m iZ hI ho hK hm=>?_) fun e=>(by cases e)
 subst hK
 have hcn:cl=none:=by cases cl<;>simp_all
 subst hcn
 obtain⟨n,hn⟩:=hw
 obtain⟨lL,u,hr,Aw,h0⟩:=hI.spawn (sl:=sl) (iL:=K 0) (r:= .closer) (cl':=some (D.length,.kd,n)) (mC:=0) hrw (bX w (hI.base.fit.kz 0)) (St.le_refl _) rfl (fun t' hd=>trivial) rfl rfl rfl rfl (.inr ⟨n,rfl,rfl,hn⟩)
 exact Ends.next (hm.trans hr) (hT _ lL w _ _ _ sl rfl Aw (by rw[lf,List.filterMap_append];simp only[List.filterMap_cons,au.Yk,List.filterMap_nil,List.append_nil];exact ho) (by rw[aH _ _ (by omega)];exact St.le_refl _))
end
section
variable {ι:Type} {E:eo ι} {Q:Machine→Outcome→World→Trace→Prop} {g:Goroutine} {s s':St}
theorem Qt{L:Nat→Option Obj}(hs:g.status= .running)(ek:E.Wg≠E.Ch)
 (hW:(E.Wg,wgBlock E.ty 0 0)∈s.rw)(hC:∃tm,(E.Ch,Obj.chan 0 #[] false 0 0 tm)∈s.rw)
 (hle:s'.le s)(hkW:¬s'.knows E.Wg)(hkC:¬s'.knows E.Ch)(lq:∀b,s'.jK b→L b=none)
 (hL:∀b o,L b=some o→s.has b o∧b≠E.Wg∧b≠E.Ch)
 (hT:TC E L Q 0 false [] 0 g s'):TL E.P eQ (fun _=>none) (Calm E.os E.out) Q g s:=by
 intro K gs w t q sl hLv h0 aQR hd ⟨awy,ahj⟩
 have hLv:=hLv.le aQR
 have MA:(fS K 0 s) 0=s:=aD _ _ _
 have pX:=hLv.fit.kz 0
 rw[MA] at pX
 obtain⟨tm,hC⟩:=hC
 have hWw:=pX.rw _ _ hW
 have hCw:=pX.rw _ _ hC
 have hex:∀i,i <q.length→∃d,∃x,gs[i+1]?=some x∧QuitsD E.P (q.getD i 0) d x∧Deaf t (i+1)=d∧eQ t (i+1):=fun i hi=>by
  obtain⟨x,d,h1,h2,h3,h4⟩:=hLv.ok i _ (List.getElem?_eq_getElem hi)
  exact⟨d,x,h1,by rw[List.getD_eq_getElem?_getD,List.getElem?_eq_getElem hi];exact h2,h3,h4⟩
 let D:List (au ι):=(List.range q.length).map fun i=>au.leave (q.getD i 0) (Deaf t (i+1)) false
 have hD:∀i r,D[i]?=some r→i <q.length∧r=au.leave (q.getD i 0) (Deaf t (i+1)) false:=fun i r hi=>by
  simp only[D,List.getElem?_map] at hi
  obtain⟨j,hj,rfl⟩:=Option.map_eq_some_iff.1 hi
  obtain⟨cU,rfl⟩:=List.getElem?_eq_some_iff.1 hj
  simp only[List.length_range] at cU
  simp only[List.getElem_range]
  exact⟨cU,trivial⟩
 have jM:∀r∈D,∃a b,r=au.leave a b false:=fun r hr=>by
  obtain⟨i,hi⟩:=List.getElem?_of_mem hr
  exact⟨_,_,(hD i r hi).2⟩
 have hzero:∀f:au ι→Nat,(∀a b,f (.leave a b false)=0)→fE f D=0:=fun f hf=>by
  unfold fE
  rw[List.sum_eq_zero_iff_forall_eq_nat]
  intro x hx
  obtain⟨r,hr,rfl⟩:=List.mem_map.1 hx
  obtain⟨a,b,rfl⟩:=jM r hr
  exact hf a b
 let K':Nat→St:=fun j=>if j=0 then s' else ⟨fun _=>none,[]⟩
 have MJ:K' 0=s':=by simp[K']
 have hKn:∀j,j≠0→K' j=⟨fun _=>none,[]⟩:=fun j hj=>by simp[K',hj]
 have none:∀j b,j≠0→¬(K' j).knows b:=fun j b hj hk=>by
  rw[hKn j hj] at hk
  rcases hk with hk| ⟨o,ho⟩
  ·exact hk rfl
  cases ho
 have Ih:Fit (fun _=>Option.none) K' w t:=hLv.fit.le fun j=>by
  by_cases e:j=0
  ·subst e;rw[MJ,MA];exact hle
  rw[hKn j e];exact⟨(fS K 0 s j).rw,by simp,fun b o hb=>(by cases hb)⟩
 have aie:Fit L K' w t:=by
  refine⟨fun b o hl=>pX.has (hL b o hl).1,fun i b ho=>?_,Ih.kz,Ih.sep,Ih.perm,Ih.rC,Ih.old,Ih.clean,fun p x b hx hk hb=>⟨?_,(Ih.sync p x b hx hk hb).2⟩⟩
  ·by_cases e:i=0
   ·subst e;rw[MJ] at ho;exact lq b ho
   exact absurd (.inr ho) (none i b e)
  cases hl:L b with
  |none=>rfl
  |some o=>
   have:=(hLv.fit.sync p x b hx hk hb).2 0
   rw[MA] at this
   rcases(hL b o hl).1 with h1|h1
   ·exact absurd (.inl (by rw[h1];simp)) this
   exact absurd (.inr ⟨o,h1⟩) this
 have hLb:∀b,(b=E.Wg∨b=E.Ch)→L b=Option.none:=fun b hb=>by
  cases hl:L b with
  |none=>rfl
  |some o=>
   rcases hb with e|e
   ·exact absurd e (hL b o hl).2.1
   exact absurd e (hL b o hl).2.2
 have hKk:∀b,¬s'.knows b→∀j,¬(K' j).knows b:=fun b hb j=>by
  by_cases e:j=0
  ·subst e;rw[MJ];exact hb
  exact none j b e
 have aqS:∀p x,touchAt t p=some x→blk x.loc=some E.Wg→Knows t 0 p:=fun p x hx hb=>hLv.fit.perm 0 E.Wg (by rw[MA];exact⟨_,hW⟩) p x hx hb
 have aC3:∀p x,touchAt t p=some x→E.At x→Knows t 0 p:=fun p x hx hb=>hb.elim (aqS p x hx) fun hb=>hLv.fit.perm 0 E.Ch (by rw[MA];exact⟨_,hC⟩) p x hx hb
 refine hT K' gs w t D Option.none sl rfl ⟨⟨aie,by simp[D,hLv.size],fun i r hi=>?_,fun i hi b=>?_,hLv.ops,ahj⟩,
  ⟨hKk _ hkW,hKk _ hkC,hLb _ (.inl rfl),hLb _ (.inr rfl),ek,awy,fun j hj p x hx hb _=>?_,fun p x hx hb _=>aqS p x hx hb,⟨0,0,hWw,?_⟩,?_,⟨0,0,tm,hCw⟩,fun a b c hx=>?_,fun r hr=>?_⟩,h0,hd⟩ ?_ (by rw[MJ];exact St.le_refl _)
 ·obtain⟨cU,rfl⟩:=hD i r hi
  obtain⟨d,x,h1,h2,h3,h4⟩:=hex i cU
  exact⟨x,h1,hKn _ (by omega),by rw[h3];exact h2,rfl,(fun e=>(by cases e)),fun _=>h4⟩
 ·exact none i b (by have:=hLv.size;omega)
 ·rcases hj with rfl| ⟨k,r,rfl,hk,hl⟩
  ·exact aC3 p x hx hb
  obtain⟨_,rfl⟩:=hD k r hk;cases hl
 ·rw[hzero au.cnt fun _ _=>rfl,hzero au.c4 fun _ _=>rfl,hzero au.c3 fun _ _=>rfl,hzero au.c2 fun _ _=>rfl]
  have:=Md.start (mx:=E.max) (n:=0)
  simpa using this
 ·rw[hzero au.cnt fun _ _=>rfl];omega
 ·rw[hCw] at hx
  simp only[Option.some.injEq,Obj.chan.injEq] at hx
  omega
 ·obtain⟨a,b,rfl⟩:=jM r hr;rfl
 unfold lf
 rw[List.filterMap_eq_nil_iff]
 intro r hr
 obtain⟨a,b,rfl⟩:=jM r hr;rfl
end
theorem EG(os:Os)(out:Array (Nat×ByteArray)):aal (Calm os out) where
 grow:=fun _ _ _ _ h hu=>⟨fun a=>(h.1 a).app fun op az=>hu op az a,h.2⟩
 drawn:=fun _ _ _ _ h=>h
 le:=fun _ _ _ _ h _=>h
 own:=fun _ _ _ _ _ _ _ h ht hu=>⟨fun a=>(h.1 a).app fun op az=>hu op az a,ht.os.trans h.2.1,ht.output.trans h.2.2⟩
def T0(P:Program)(os:Os)(out:Array (Nat×ByteArray))(Post:Value→World→Prop):Goroutine→St→Prop:=TL P eQ (fun _=>none) (Calm os out) (Good P Post)
theorem sV(P:Program)(os:Os)(out:Array (Nat×ByteArray))(Post:Value→World→Prop):Closed P true (T0 P os out Post):=KX ES (EG os out) _
theorem aaz{os:Os}{out:Array (Nat×ByteArray)}{Post:Value→World→Prop}{s:St}(hs:g.status= .running)
 (bX:∀w,aT s w→w.os=os→w.output=out→∃v w' es s',stepG P true g w= .ended (.done v) w' es∧Post v w'∧Trans s w s' w' es):T0 P os out Post g s:=by
 refine Ns ES (EG os out) hs fun K gs w t q sl m hL h0 hK hd hi hm hmg=>?_
 subst hK
 obtain⟨v,w',es,s',hgo,hp,ht⟩:=bX w (hL.fit.kz 0) hi.2.1 hi.2.2
 have hr:=ConcN.runT_crowd_ended (P:=P) (sl:=sl) (i:=0) h0 (by simpa using hgo)
 have oT:=hL.fit.own ht g.frame.fn g.frame.place
 generalize hu:MemOp.ofEvents 0 g.frame.fn g.frame.place es=u at hr oT
 have My:∀op∈u,op.g=0:=by rw[←hu];exact fun op az=>Go.ConcR.g_of_ofEvents op az
 refine⟨0,m,.done v,w',t++u,by simp[runNT,hm,hr],rfl,by simp[step,hm,hr],v,rfl,hp,oT.clean,fun i k hk ek hc=>?_,⟨fun x hx=>?_,by rw[hmg.2];rfl⟩,fun i x hx ek=>?_⟩
 ·obtain⟨op,ho,bdx⟩:=Option.map_eq_some_iff.1 hk
  cases k with
  |zero=>exact absurd rfl ek
  |succ k=>
   have cU:op.g <gs.size:=by
    rcases Array.mem_append.1 (mem_of_getElem? ho) with h'|h'
    ·exact hL.ops op h'
    rw[My op h',hL.size];omega
   have hkq:k <q.length:=by have:=hL.size;omega
   obtain⟨_,_,_,_,_,bZ⟩:=hL.ok k _ (List.getElem?_eq_getElem hkq)
   exact(bZ.other fun op az=>by rw[My op az];omega) i hk hc
 ·rw[hmg.1] at hx
  obtain⟨j,hj⟩:=List.getElem?_of_mem hx
  rw[List.getElem?_drop,Array.getElem?_toList] at hj
  have hjq:j <q.length:=by have:=lt_size hj;have:=hL.size;omega
  obtain⟨y,d,hy,hq,_⟩:=hL.ok j _ (List.getElem?_eq_getElem hjq)
  rw[Nat.add_comm] at hj
  rw[hj] at hy
  obtain rfl:=Option.some.inj hy
  exact⟨_,hq.leaves⟩
 rw[hmg.1] at hx
 cases i with
 |zero=>exact absurd rfl ek
 |succ j=>
  have hjq:j <q.length:=by have:=lt_size hx;have:=hL.size;omega
  obtain⟨y,d,hy,hq,hdd,_⟩:=hL.ok j _ (List.getElem?_eq_getElem hjq)
  rw[hx] at hy
  obtain rfl:=Option.some.inj hy
  refine⟨q[j],?_⟩
  have e:(t++u).deaf (j+1) (t++u).size=d:=by
   have:=iy t u (g:=j+1) fun op az=>by rw[My op az];omega
   unfold Deaf at this hdd
   rw[this];exact hdd
  rw[e]
  exact hq.hears m.world
theorem aen{Post:Value→World→Prop}{s:St}{w:World}(ha:aT s w)(h:T0 P w.os w.output Post g s):Ends P (Good P Post) (solo g w) #[]:=by
 rw[solo_eq_crowd]
 have JI:∀p x,touchAt #[] p=some x→False:=fun p x hx=>by simp[touchAt,Trace.act?] at hx
 have hn:∀i,i≠0→∀b,¬((if i=0 then s else ⟨fun _=>none,[]⟩:St)).knows b:=fun i hi b hk=>by
  rw[if_neg hi] at hk
  rcases hk with hk| ⟨o,ho⟩
  ·exact hk rfl
  cases ho
 refine h (fun j=>if j=0 then s else ⟨fun _=>none,[]⟩) #[g] w #[] [] none ⟨⟨(fun _ _ e=>(by cases e)),fun _ _ _=>rfl,fun i=>?_,fun i j b JN ho hk=>?_,fun _ _ _ p x hx=>(JI p x hx).elim,fun _ _ _ p x hx=>(JI p x hx).elim,
  fun p x _ hx=>(JI p x hx).elim,(fun said ⟨i,j,_,⟨a,b,h1,_⟩,_⟩=>by simp[Trace.act?] at h1),fun p x _ hx=>(JI p x hx).elim⟩,rfl,fun i n hi=>by simp at hi,fun i b hi hk=>hn i hi b hk,by simp⟩ rfl (by simp only[if_true];exact St.le_refl _) rfl ⟨fun a i=>by simp[Trace.act?],rfl,rfl⟩
 ·by_cases e:i=0
  ·simp only[e,if_true];exact ha
  simp only[if_neg e];exact⟨(fun _ _ e=>(by cases e)),(fun _ _ e=>(by cases e)),by simp,(fun _ _ e=>(by cases e))⟩
 by_cases e:j=0
 ·exact hn i (fun e'=>JN (e'.trans e.symm)) b (.inr ho)
 exact hn j e b hk
section
variable {ι:Type} {E:eo ι} {L:Nat→Option Obj} {pend d0:Nat} {Q:Machine→Outcome→World→Trace→Prop} {g g':Goroutine} {s:St} {os:List ι}
theorem XH(hs:g.status= .running)(bX:∀w,E.live w→stepG E.P true g w= .go g' w #[])(hT:TC E L Q pend false os d0 g' s):TC E L Q pend false os d0 g s:=
 Gc (es:= #[]) (mC:=pend) hs rfl (fun w st sm ha hb _=>⟨w,bX w ⟨st,sm,ha⟩,eW.refl w,by obtain⟨rfl,rfl⟩:=hb rfl;exact ha⟩) (by simp) rfl id hT
theorem amk(hs:g.status= .running)(bX:∀w,E.live w→stepG E.P true g w= .go g' w #[said (.read (smA E.Wg))])(hT:TC E L Q pend false os d0 g' s):TC E L Q pend false os d0 g s:=by
 refine xG hs (fun K gs w t D cl sl m iZ hI ho hK hm=>?_) fun e=>(by cases e)
 subst hK
 have hcn:cl=none:=by cases cl<;>simp_all
 subst hcn
 obtain⟨st,sm,ha,_⟩:=hI.sy.cells
 have hgo:=bX w ⟨st,sm,ha⟩
 have e1:MemOp.ofEvents 0 g.frame.fn g.frame.place #[said (.read (smA E.Wg))]= #[{g:=0,fn:=g.frame.fn,pos:=g.frame.place,act:= .mark (.read (smA E.Wg))}]:=by rw[ofEvents_eq];simp[said,Go.ConcR.ofEvent_mk]
 have awr:∀op∈MemOp.ofEvents 0 g.frame.fn g.frame.place #[said (.read (smA E.Wg))],op.g=0∧op.act= .mark (.read (smA E.Wg)):=by
  rw[e1];intro op az;simp only[List.mem_toArray,List.mem_singleton] at az;subst az;exact⟨rfl,rfl⟩
 have htc:∀op∈MemOp.ofEvents 0 g.frame.fn g.frame.place #[said (.read (smA E.Wg))],∀x,op.act.touch?=some x→x=⟨.cell (smA E.Wg),false,.said⟩:=fun op az x hx=>by
  rw[(awr op az).2] at hx;simp only[MemAct.touch?,Option.some.injEq] at hx;exact hx.symm
 obtain⟨lL,u,cl',hr,Aw,V7⟩:=hI.go0 (sl:=sl) (s':=K 0) (mC:=pend) hgo ⟨rfl,rfl⟩ (hI.sy.kW 0) (hI.sy.kC 0) rfl (by
  rw[mB]
  refine hI.base.fit.beside E.Wg 0 hI.sy.kW hI.sy.lW (lt_size ha) (Nat.le_refl _) (fun _ _ _=>rfl) (fun op az=>(awr op az).1) fun op az x hx=>?_
  obtain rfl:=htc op az x hx
  refine⟨rfl,fun sd p a u6 hc=>?_⟩
  have hl:blk a.loc=some E.Wg:=by rw[hc.1];rfl
  rcases hc.2.2.2 with h3|h3|h3
  ·exact hI.sy.plain 0 (.inl rfl) p a u6 (.inl hl) h3
  ·cases h3
  ·exact hI.sy.said p a u6 hl h3.2.1)
  (fun op az x hx _=>by obtain rfl:=htc op az x hx;exact⟨by simp,fun _=>rfl⟩) (fun op az a=>by rw[(awr op az).2];simp) (hI.Jc rfl) hI.sy.Dj
 exact Ends.next (hm.trans hr) (hT _ lL w _ D cl' sl (V7.trans iZ) Aw ho (by rw[aD];exact St.le_refl _))
end
abbrev Nh:=Option Value×Option Value
abbrev jW:Nh:=(none,none)
def Je:Nh→Nat→Option Value
 | (a,_),0=>a
 | (_,b),1=>b
 |_,_=>none
theorem Tx(off:Nat):Je jW off=none:=by
 match off with
 |0=>rfl
 |1=>rfl
 |_+2=>rfl
def Pm:Nh→Nat→Value→Nh
 | (_,b),0,v=>(some v,b)
 | (a,_),1,v=>(a,some v)
 |c,_,_=>c
inductive RH(α:Type) where
 |ok (a:α)
 |halt (h:Halt)
structure VO(α:Type) where
 r:RH α
 ws:List (Nat×Value)
 es:List Event
 bs:List Nat
def vq(P:Program)(ty:TypeId):Sem α→Nh→Option (VO α)
 | .pure a,_=>some ⟨.ok a,[],[],[]⟩
 | .load m a k,c=>match a.spot with
  |some _=>none
  |none=>match Je c a.off with
   |some v=>match vq P ty (k v) c with
    |some o=>some ⟨o.r,o.ws,⟨.cell a,false,m== .atomic⟩::o.es,a.block::o.bs⟩
    |none=>none
   |none=>none
 | .store m a v k,c=>match a.spot with
  |some _=>none
  |none=>bif single v then (match Je c a.off with
   |some _=>match vq P ty k (Pm c a.off v) with
    |some o=>some ⟨o.r,(a.off,v)::o.ws,⟨.cell a,true,m== .atomic⟩::o.es,a.block::o.bs⟩
    |none=>none
   |none=>none) else none
 | .shape r k,c=>match vq P ty (k (some (ty,2))) c with
  |some o=>some ⟨o.r,o.ws,o.es,r::o.bs⟩
  |none=>none
 | .frozen a k,c=>match vq P ty (k false) c with
  |some o=>some ⟨o.r,o.ws,o.es,a.block::o.bs⟩
  |none=>none
 | .program k,c=>vq P ty (k P) c
 | .mark m k,c=>match vq P ty k c with
  |some o=>some ⟨o.r,o.ws,⟨.mark m,false,true⟩::o.es,o.bs⟩
  |none=>none
 | .halt h,_=>some ⟨.halt h,[],[],[]⟩
 |_,_=>none
def mM(ty:TypeId)(W:Nat)(w:World)(c:Nh):Prop:=∃a b,w.heap[W]?=some (.cells #[a,b] ty)∧(∀x,c.1=some x→a=x)∧∀x,c.2=some x→b=x
theorem mM.aex{w:World}{c:Nh}(h:mM ty W w c):∃a b,w.heap[W]?=some (.cells #[a,b] ty):=by
 obtain⟨a,b,h,_⟩:=h
 exact⟨a,b,h⟩
def NR(W:Nat)(w:World)(ws:List (Nat×Value)):World:=ws.foldl (fun w x=>w.setCell ⟨W,x.1,none⟩ x.2) w
def RH.to(w:World):RH α→Result α
 | .ok a=> .ok a w
 | .halt h=> .halt h w
theorem Jd{w:World}{c:Nh}(h:mM ty W w c){v:Value}(hv:Je c off=some v):w.cell? ⟨W,off,none⟩=some v:=by
 obtain⟨p,q,h,h1,h2⟩:=h
 unfold Je at hv
 split at hv<;>try (cases hv;done)
 ·rw[←h1 _ hv];simp[World.cell?,h]
 rw[←h2 _ hv];simp[World.cell?,h]
theorem acv{w:World}{c:Nh}(h:mM ty W w c){u v:Value}(hv:Je c off=some u):mM ty W (w.setCell ⟨W,off,none⟩ v) (Pm c off v):=by
 obtain⟨p,q,h,h1,h2⟩:=h
 unfold Je at hv
 split at hv<;>try (cases hv;done)
 ·exact⟨v,q,by simp[World.setCell,Array.getElem?_modify,h],by simp[Pm],fun x hx=>h2 x hx⟩
 exact⟨p,v,by simp[World.setCell,Array.getElem?_modify,h],fun x hx=>h1 x hx,by simp[Pm]⟩
theorem ad9{w:World}{a b:Value}(h:w.heap[W]?=some (.cells #[a,b] ty)) (off:Nat) (s:Option Nat):w.frozen? ⟨W,off,s⟩=false:=by
 simp[World.frozen?,h]
theorem NA(x:Sem α):∀ {c:Nh} {o:VO α} {w:World} (es:Array Event),vq P ty x c=some o→(∀b∈o.bs,b=W)→((c=jW∧o.bs=[])∨mM ty W w c)→x.runT P w es=(o.r.to (NR W w o.ws),es++o.es.toArray):=by
 induction x with
 |pure a=>intro c o w es h hb hc;simp only[vq,Option.some.injEq] at h;subst h;simp[Sem.runT,RH.to,NR]
 |halt a=>intro c o w es h hb hc;simp only[vq,Option.some.injEq] at h;subst h;simp[Sem.runT,RH.to,NR]
 |load m a k ih=>
  intro c o w es h hb hc
  simp only[vq] at h
  split at h<;>try (cases h;done)
  rename_i hs
  split at h<;>try (cases h;done)
  rename_i v hv
  split at h<;>try (cases h;done)
  rename_i o1 h1
  simp only[Option.some.injEq] at h;subst h
  have e:a=⟨W,a.off,none⟩:=by
   have:=hb a.block (by simp)
   rcases a with ⟨x,y,z⟩
   simp only at hs this
   subst hs this;rfl
  have tB:mM ty W w c:=hc.elim (fun hh=>by rw[hh.1] at hv;rw[Tx] at hv;cases hv) id
  have Iq:w.cell? a=some v:=by rw[e];exact Jd tB hv
  simp only[Sem.runT,Iq]
  rw[ih v _ h1 (fun b hm=>hb b (by simp[hm])) (.inr tB)]
  simp
 |store m a v k ih=>
  intro c o w es h hb hc
  simp only[vq] at h
  split at h<;>try (cases h;done)
  rename_i hs
  cases hsg:single v with
  |false=>rw[hsg] at h;cases h
  |true=>
  rw[hsg] at h;simp only[cond_true] at h
  split at h<;>try (cases h;done)
  rename_i u hu
  split at h<;>try (cases h;done)
  rename_i o1 h1
  simp only[Option.some.injEq] at h;subst h
  have e:a=⟨W,a.off,none⟩:=by
   have:=hb a.block (by simp)
   rcases a with ⟨x,y,z⟩
   simp only at hs this
   subst hs this;rfl
  have tB:mM ty W w c:=hc.elim (fun hh=>by rw[hh.1] at hu;rw[Tx] at hu;cases hu) id
  have Iq:w.cell? a=some u:=by rw[e];exact Jd tB hu
  have hfz:w.frozen? a=false:=by
   obtain⟨p,q,Zb⟩:=tB.aex
   rw[e];exact ad9 Zb _ _
  have pz:=acv (v:=v) tB hu
  have key:(Sem.store m a v k).runT P w es=k.runT P (w.setCell a v) (es.push ⟨.cell a,true,m== .atomic⟩):=by
   cases v<;>first| (cases hsg;done)|simp[Sem.runT,Iq,hfz]
  rw[key,ih _ h1 (fun b hm=>hb b (by simp[hm])) (.inr (by rw[e];exact pz))]
  simp only[NR,List.foldl_cons]
  rw[←e]
  simp
 |shape r k ih=>
  intro c o w es h hb hc
  simp only[vq] at h
  split at h<;>try (cases h;done)
  rename_i o1 h1
  simp only[Option.some.injEq] at h;subst h
  have e:r=W:=hb r (by simp)
  have tB:mM ty W w c:=hc.elim (fun hh=>by cases hh.2) id
  have hsh:w.shape? r=some (ty,2):=by
   obtain⟨p,q,Zb⟩:=tB.aex
   rw[e];simp[World.shape?,Zb]
  simp only[Sem.runT,hsh]
  exact ih _ _ h1 (fun b hm=>hb b (by simp[hm])) (.inr tB)
 |frozen a k ih=>
  intro c o w es h hb hc
  simp only[vq] at h
  split at h<;>try (cases h;done)
  rename_i o1 h1
  simp only[Option.some.injEq] at h;subst h
  have e:a.block=W:=hb a.block (by simp)
  have tB:mM ty W w c:=hc.elim (fun hh=>by cases hh.2) id
  have hsh:w.frozen? a=false:=by
   obtain⟨p,q,Zb⟩:=tB.aex
   rcases a with ⟨x,y,z⟩
   simp only at e;subst e;exact ad9 Zb _ _
  simp only[Sem.runT,hsh]
  exact ih _ _ h1 (fun b hm=>hb b (by simp[hm])) (.inr tB)
 |program k ih=>
  intro c o w es h hb hc
  simp only[vq] at h
  simp only[Sem.runT]
  exact ih _ _ h hb hc
 |mark m k ih=>
  intro c o w es h hb hc
  simp only[vq] at h
  split at h<;>try (cases h;done)
  rename_i o1 h1
  simp only[Option.some.injEq] at h;subst h
  simp only[Sem.runT]
  rw[ih _ h1 (fun b hm=>hb b hm) hc]
  simp
 |new o k ih=>intro c o w es h;cases h
 |freeze a n k ih=>intro c o w es h;cases h
 |getObj r k ih=>intro c o w es h;cases h
 |setObj r o k ih=>intro c o w es h;cases h
 |choose q k ih=>intro c o w es h;cases h
 |sys q k ih=>intro c o w es h;cases h
def ayE(fr:Frame):Option Frame:=
 match fr.todo with
 | []=>match fr.roundOf with
  |none=>some {fr with mode:= .returning}
  |some _=>none
 | .code .ret::_=>match fr.roundOf with
  |none=>some {fr with mode:= .returning}
  |some _=>none
 | .code .skip::k=>some {fr with todo:=k}
 | .code (.label _)::k=>some {fr with todo:=k}
 | .inBlock _::k=>some {fr with todo:=k}
 | .inScope _::k=>some {fr with todo:=k}
 | .code (.seq a b)::k=>some {fr with todo:= .code a:: .code b::k}
 | .code (.cond c x y)::k=>match fr.eval c with
  | .bool b=>some {fr with todo:= .code (if b then x else y)::k}
  |_=>none
 | .code (.block id body)::k=>some {fr with todo:= .code body:: .inBlock id::k}
 | .code (.loop body)::k=>some {fr with todo:= .code body:: .inLoop body::k}
 | .inLoop body::k=>some {fr with todo:= .code body:: .inLoop body::k}
 | .code (.scope body)::k=>some {fr with todo:= .code body:: .inScope body::k}
 | .code (.exit id)::k=>match exitTo id k with
  |some k'=>some {fr with todo:=k'}
  |none=>none
 | .code (.region _ ops false)::k=>some {fr with todo:= .inRegion ops (List.range ops.size)::k}
 | .inRegion _ []::k=>some {fr with todo:=k}
 | .inRegion ops (i::_)::_=>if ((ops[i]?).map (Region.wanted · (yielded ops fr.tmps))).getD false then none else some (fr.finish undef)
 |_=>none
theorem apj(hm:fr.mode= .run)(h:ayE fr=some n9)(w:World):stepG P main (G fr cs) w= .go (G n9 cs) w #[]:=by
 rcases fr with ⟨fn,tmps,todo,defers,mode,kind,ro⟩
 simp only at hm;subst hm
 unfold ayE at h
 simp only at h
 split at h
 all_goals try (cases h;done)
 all_goals try (simp only[Option.some.injEq] at h;subst h;simp[G,stepG,stepG.exec];done)
 ·split at h<;>try (cases h;done)
  simp only[Option.some.injEq] at h;subst h;simp[G,stepG,stepG.exec]
 ·split at h<;>try (cases h;done)
  simp only[Option.some.injEq] at h;subst h;simp[G,stepG,stepG.exec]
 ·split at h<;>try (cases h;done)
  rename_i b hb
  simp only[Option.some.injEq] at h;subst h
  simp only[G,stepG,stepG.exec,hb]
 ·split at h<;>try (cases h;done)
  rename_i b hb
  simp only[Option.some.injEq] at h;subst h
  simp[G,stepG,stepG.exec,hb]
 split at h<;>try (cases h;done)
 rename_i hw
 simp only[Option.some.injEq] at h;subst h
 simp only[G,stepG,stepG.exec,hw]
 simp
inductive OV where
 |go (fr:Frame) (iN:List Frame)
 |ret (v:Value)
 |atZ
 |block
abbrev OVs:=Option (OV×List (Nat×Value)×List Event×List Nat)
def uZ(P:Program)(fn:FuncId)(es:List Event):List Event:=(seen P fn es.toArray).toList
def YW:CallKind→Bool
 | .early=>true
 |_=>false
def afv(P:Program)(ty:TypeId)(c:Nh)(fr:Frame)(iN:List Frame):OVs:=
 match fr.todo with
 | .inRegion ops (i::_)::_=>bif ((ops[i]?).map (Region.wanted · (yielded ops fr.tmps))).getD false&& !(YW fr.kind) then (match fr.roundOf,fr.oper? with
  |none,some o=>match vq P ty (execOp fr.eval o) c with
   |some ⟨.ok (.value v),ws,es,bs⟩=>some (.go (fr.finish v) iN,ws,uZ P fr.fn es,bs)
   |some ⟨.ok .skip,ws,es,bs⟩=>some (.go (fr.finish undef) iN,ws,uZ P fr.fn es,bs)
   |some ⟨.ok (.enter f args),ws,es,bs⟩=>some (.go (Frame.enter P f args .normal) (fr::iN),ws,uZ P fr.fn es,bs)
   |some ⟨.ok (.defer d),ws,es,bs⟩=>some (.go ({fr with defers:=d::fr.defers}.finish undef) iN,ws,uZ P fr.fn es,bs)
   |some ⟨.halt .blocked,ws,_,bs⟩=>some (.block,ws,[],bs)
   |_=>none
  |_,_=>none) else none
 |_=>none
def aD7:Target→Bool
 | .fn .. =>true
 |_=>false
def atk(P:Program)(ty:TypeId)(c:Nh)(fr:Frame)(iN:List Frame):OVs:=
 match fr.defers with
 | []=>match P.funcs[fr.fn]? with
  |some fn=>match vq P ty (results fn fr.tmps) c with
   |some ⟨.ok v,ws,es,bs⟩=>match iN with
    |q::gz=>match fr.kind with
     | .normal=>some (.go (q.finish v) gz,ws,uZ P fr.fn es,bs)
     | .deferred=>match q.mode with
      | .returning=>some (.go q gz,ws,uZ P fr.fn es,bs)
      |_=>none
     |_=>none
    | []=>match fr.kind with
     | .normal=>some (.ret v,ws,uZ P fr.fn es,bs)
     | .deferred=>some (.atZ,ws,uZ P fr.fn es,bs)
     |_=>none
   |_=>none
  |none=>none
 |d::ds=>bif aD7 d.target then (match vq P ty (invoke d.target d.args) c with
  |some ⟨.ok (.value _),ws,es,bs⟩=>some (.go {fr with defers:=ds} iN,ws,uZ P fr.fn es,bs)
  |some ⟨.ok (.enter f args),ws,es,bs⟩=>some (.go (Frame.enter P f args .deferred) ({fr with defers:=ds}::iN),ws,uZ P fr.fn es,bs)
  |_=>none) else none
def Rs(P:Program)(ty:TypeId)(c:Nh)(fr:Frame)(iN:List Frame):OVs:=
 match fr.mode with
 | .run=>match ayE fr with
  |some n9=>some (.go n9 iN,[],[],[])
  |none=>afv P ty c fr iN
 | .returning=>atk P ty c fr iN
 |_=>none
def OV.is(P:Program)(main:Bool)(g:Goroutine)(w w':World)(es:Array Event)(cs:List Frame):OV→Prop
 | .go fr iN=>stepG P main g w= .go (G fr (iN++cs)) w' es
 | .ret v=>(∀c JY,cs=c::JY→stepG P main g w= .go (G (c.finish v) JY) w' es)
 | .atZ=>(∀c JY,cs=c::JY→(c.mode= .returning∨∃ch,c.mode= .panicking [⟨ch,false,true⟩])→stepG P main g w= .go (G c JY) w' es)
 | .block=>stepG P main g w= .go {g with status:= .blocked} w' es
section
variable {P:Program} {main:Bool} {ty:TypeId} {W:Nat} {c:Nh} {fr:Frame} {iN cs:List Frame} {w:World} {o:OV} {ws:List (Nat×Value)} {es:List Event} {bs:List Nat}
theorem toArr(P:Program)(fn:FuncId)(es:List Event):(uZ P fn es).toArray=seen P fn es.toArray:=by simp[uZ]
theorem afu(hm:fr.mode= .run)(h:afv P ty c fr iN=some (o,ws,es,bs))(hb:∀b∈bs,b=W)(hc:(c=jW∧bs=[])∨mM ty W w c)(cs:List Frame)(main:Bool):o.is P main (G fr (iN++cs)) w (NR W w ws) es.toArray cs:=by
 rcases fr with ⟨fn,tmps,todo,defers,mode,kind,ro⟩
 simp only at hm;subst hm
 unfold afv at h
 simp only at h
 split at h<;>try (cases h;done)
 rename_i ops i rest k
 cases hw:(((ops[i]?).map (Region.wanted · (yielded ops tmps))).getD false&& !(YW kind)) with
 |false=>rw[hw] at h;cases h
 |true=>
 rw[hw] at h;simp only[cond_true] at h
 simp only[Bool.and_eq_true] at hw
 have hk:(kind==CallKind.early)=false:=by cases kind<;>first|rfl|cases hw.2
 split at h<;>try (cases h;done)
 rename_i op az
 have gP:∀cs,stepG P main (G ⟨fn,tmps,.inRegion ops (i::rest)::k,defers,.run,kind,none⟩ cs) w=stepG.apply P true ⟨fn,tmps,.inRegion ops (i::rest)::k,defers,.run,kind,none⟩ cs none (execOp (Frame.eval ⟨fn,tmps,.inRegion ops (i::rest)::k,defers,.run,kind,none⟩) op) w:=by
  intro cs
  simp only[G,stepG,stepG.exec,hw.1,if_true,stepG.oper,az]
 split at h<;>try (cases h;done)
 all_goals
  rename_i heq hv
  simp only[Option.some.injEq,Prod.mk.injEq] at h
  obtain⟨rfl,rfl,rfl,rfl⟩:=h
  have bY:=NA _ (w:=w) #[] hv hb hc
  simp only[RH.to,Array.empty_append] at bY
  simp only[OV.is]
  rw[gP]
  simp only[stepG.apply,bY,if_true,hk,Bool.false_eq_true,if_false,GStep.after,Array.append_empty,G,toArr]
 all_goals first|rfl| (simp[seen_none];done)
theorem amh(hm:fr.mode= .returning)(h:atk P ty c fr iN=some (o,ws,es,bs))(hb:∀b∈bs,b=W)(hc:(c=jW∧bs=[])∨mM ty W w c)(cs:List Frame)(main:Bool):o.is P main (G fr (iN++cs)) w (NR W w ws) es.toArray cs:=by
 rcases fr with ⟨fn,tmps,todo,defers,mode,kind,ro⟩
 simp only at hm;subst hm
 unfold atk at h
 simp only at h
 split at h
 ·split at h<;>try (cases h;done)
  rename_i f hf
  split at h<;>try (cases h;done)
  rename_i v ws' eG xp hv
  have bY:=fun hb hc=>NA _ (w:=w) #[] hv (W:=W) hb hc
  simp only[RH.to,Array.empty_append] at bY
  have key:(∀b∈xp,b=W)→((c=jW∧xp=[])∨mM ty W w c)→∀cs,stepG P main (G ⟨fn,tmps,todo,[],.returning,kind,ro⟩ cs) w=GStep.after (seen P fn eG.toArray) (doReturn P main ⟨fn,tmps,todo,[],.returning,kind,ro⟩ cs none v (NR W w ws')):=by
   intro hb hc cs
   simp only[G,stepG,unwind,hf,bY hb hc]
  split at h
  ·split at h<;>try (cases h;done)
   ·simp only[Option.some.injEq,Prod.mk.injEq] at h
    obtain⟨rfl,rfl,rfl,rfl⟩:=h
    simp only[OV.is]
    rw[key hb hc]
    simp only[List.cons_append,doReturn,GStep.after,Array.append_empty,toArr,G]
   split at h<;>try (cases h;done)
   rename_i q gz hmq
   simp only[Option.some.injEq,Prod.mk.injEq] at h
   obtain⟨rfl,rfl,rfl,rfl⟩:=h
   simp only[OV.is]
   rw[key hb hc]
   simp only[List.cons_append,doReturn,hmq,GStep.after,Array.append_empty,toArr,G]
  split at h<;>try (cases h;done)
  ·simp only[Option.some.injEq,Prod.mk.injEq] at h
   obtain⟨rfl,rfl,rfl,rfl⟩:=h
   intro q JY hq
   subst hq
   rw[key hb hc]
   simp only[List.nil_append,doReturn,GStep.after,Array.append_empty,toArr,G]
  simp only[Option.some.injEq,Prod.mk.injEq] at h
  obtain⟨rfl,rfl,rfl,rfl⟩:=h
  intro q JY hq hmq
  subst hq
  rw[key hb hc]
  rcases hmq with hmq| ⟨ch,hmq⟩
  ·simp only[List.nil_append,doReturn,hmq,GStep.after,Array.append_empty,toArr,G]
  simp only[List.nil_append,doReturn,hmq,GStep.after,Array.append_empty,toArr,G]
 rename_i d ds
 cases hd:aD7 d.target with
 |false=>rw[hd] at h;cases h
 |true=>
 rw[hd] at h;simp only[cond_true] at h
 rcases d with ⟨tg,args⟩
 cases tg with
 |fn f cap=>
  split at h<;>try (cases h;done)
  all_goals
   rename_i hv
   simp only[Option.some.injEq,Prod.mk.injEq] at h
   obtain⟨rfl,rfl,rfl,rfl⟩:=h
   have bY:=NA _ (w:=w) #[] hv hb hc
   simp only[RH.to,Array.empty_append] at bY
   simp only[OV.is]
   simp only[G,stepG,unwind,callDeferred,bY,GStep.after,toArr,Array.append_empty,Bool.false_and,Bool.false_eq_true,if_false,List.cons_append]
 |_=>cases hd
theorem rD(h:Rs P ty c fr iN=some (o,ws,es,bs))(hb:∀b∈bs,b=W)(hc:(c=jW∧bs=[])∨mM ty W w c)(cs:List Frame)(main:Bool):o.is P main (G fr (iN++cs)) w (NR W w ws) es.toArray cs:=by
 unfold Rs at h
 split at h<;>try (cases h;done)
 ·rename_i hm
  split at h
  ·rename_i n9 hfr
   simp only[Option.some.injEq,Prod.mk.injEq] at h
   obtain⟨rfl,rfl,rfl,rfl⟩:=h
   exact apj hm hfr w
  exact afu hm h hb hc cs main
 rename_i hm
 exact amh hm h hb hc cs main
end
def aki:Event→Option (Nat×Nat×List Nat)
 | ⟨.mark .disable,false,true⟩=>some (1,0,[])
 | ⟨.mark .enable,false,true⟩=>some (2,0,[])
 | ⟨.mark (.releaseMerge ⟨b,o,none⟩),false,true⟩=>some (3,o,[b])
 | ⟨.mark (.acquire ⟨b,o,none⟩),false,true⟩=>some (4,o,[b])
 | ⟨.mark (.read ⟨b,o,none⟩),false,true⟩=>some (5,o,[b])
 | ⟨.mark (.write ⟨b,o,none⟩),false,true⟩=>some (6,o,[b])
 | ⟨.cell ⟨b,o,none⟩,false,true⟩=>some (7,o,[b])
 | ⟨.cell ⟨b,o,none⟩,true,true⟩=>some (8,o,[b])
 |_=>none
def WM(W:Nat)(x:Nat×Nat):Event:=
 match x.1 with
 |1=>said .disable
 |2=>said .enable
 |3=>said (.releaseMerge ⟨W,x.2,none⟩)
 |4=>said (.acquire ⟨W,x.2,none⟩)
 |5=>said (.read ⟨W,x.2,none⟩)
 |6=>said (.write ⟨W,x.2,none⟩)
 |7=>⟨.cell ⟨W,x.2,none⟩,false,true⟩
 |_=>⟨.cell ⟨W,x.2,none⟩,true,true⟩
theorem akh{e:Event}{k o:Nat}{bs:List Nat}(h:aki e=some (k,o,bs))(hb:∀b∈bs,b=W):e=WM W (k,o):=by
 unfold aki at h
 split at h<;>try (cases h;done)
 all_goals
  simp only[Option.some.injEq,Prod.mk.injEq] at h
  obtain⟨rfl,rfl,rfl⟩:=h
 ·rfl
 ·rfl
 all_goals
  have:=hb _ (List.mem_singleton.2 rfl)
  subst this
  rfl
def I3:List Event→Option (List (Nat×Nat)×List Nat)
 | []=>some ([],[])
 |e::l=>match aki e,I3 l with
  |some (k,o,b),some (r,bs)=>some ((k,o)::r,b++bs)
  |_,_=>none
theorem M4:∀ {es:List Event} {ks:List (Nat×Nat)} {bs:List Nat},I3 es=some (ks,bs)→(∀b∈bs,b=W)→es=ks.map (WM W)
 | [],ks,bs,h,hb=>by simp only[I3,Option.some.injEq,Prod.mk.injEq] at h;obtain⟨rfl,rfl⟩:=h;rfl
 |e::l,ks,bs,h,hb=>by
  simp only[I3] at h
  split at h<;>try (cases h;done)
  rename_i k o b r xp h1 h2
  simp only[Option.some.injEq,Prod.mk.injEq] at h
  obtain⟨rfl,rfl⟩:=h
  rw[List.map_cons,←akh h1 (fun x hx=>hb x (by simp[hx])),←M4 h2 (fun x hx=>hb x (by simp[hx]))]
abbrev Bl:=Option (List Nat)
def akJ:List Nat→Bl→Bl
 |a,some b=>some (a++b)
 |_,none=>none
def both:Bl→Bl→Bl
 |some a,some b=>some (a++b)
 |_,_=>none
def akP(f:α→Bl):List α→Bl
 | []=>some []
 |x::l=>both (f x) (akP f l)
theorem Pw{a bs:List Nat}{x:Bl}(h:akJ a x=some bs)(hb:∀b∈bs,b=W):(∀b∈a,b=W)∧∃y,x=some y∧∀b∈y,b=W:=by
 cases x with
 |none=>cases h
 |some y=>
  simp only[akJ,Option.some.injEq] at h;subst h
  exact⟨fun b hm=>hb b (by simp[hm]),y,rfl,fun b hm=>hb b (by simp[hm])⟩
theorem Cf{bs:List Nat}{x y:Bl}(h:both x y=some bs)(hb:∀b∈bs,b=W):(∃a,x=some a∧∀b∈a,b=W)∧∃a,y=some a∧∀b∈a,b=W:=by
 cases x with
 |none=>cases h
 |some a=>
  cases y with
  |none=>cases h
  |some b=>
   simp only[both,Option.some.injEq] at h;subst h
   exact⟨⟨a,rfl,fun b hm=>hb b (by simp[hm])⟩,b,rfl,fun b hm=>hb b (by simp[hm])⟩
theorem Gz{f:α→Bl}:∀ {l:List α} {bs:List Nat},akP f l=some bs→(∀b∈bs,b=W)→∀x∈l,∃a,f x=some a∧∀b∈a,b=W
 | [],_,_,_,x,hx=>by cases hx
 |y::l,bs,h,hb,x,hx=>by
  obtain⟨h1,h2,h3,h4⟩:=Cf h hb
  rcases List.mem_cons.1 hx with rfl|hx
  ·exact h1
  exact Gz h3 h4 x hx
def ET(P:Program)(ty:TypeId):Nat→Frame→List Frame→(Frame→List Frame→Bl)→Bl
 |0,_,_,_=>none
 |n+1,fr,iN,k=>match Rs P ty jW fr iN with
  |some (.go n9 gz,[],[],bs)=>akJ bs (ET P ty n n9 gz k)
  |_=>k fr iN
def asT(P:Program)(ty:TypeId)(c:Nh)(fr:Frame)(iN:List Frame):Option (Frame×List Frame×List (Nat×Value)×List (Nat×Nat)×List Nat×List Nat):=
 match Rs P ty c fr iN with
 |some (.go n9 gz,ws,es,bs)=>match I3 es with
  |some (ks,b2)=>some (n9,gz,ws,ks,bs,b2)
  |none=>none
 |_=>none
def i64(n:Int):Value:= .int .u64 n
def i32(n:Int):Value:= .int .u32 n
def W0:List (Nat×Nat)→List (Nat×Nat)→Bool
 | [],[]=>true
 | (a,b)::l,(c,d)::m=>Nat.beq a c&&(Nat.beq b d&&W0 l m)
 |_,_=>false
theorem aab:∀ {l m:List (Nat×Nat)},W0 l m=true→l=m
 | [],[],_=>rfl
 | (a,b)::l,(c,d)::m,h=>by
  simp only[W0,Bool.and_eq_true] at h
  rw[Nat.eq_of_beq_eq_true h.1,Nat.eq_of_beq_eq_true h.2.1,aab h.2.2]
 | [],_::_,h=>by simp[W0] at h
 |_::_,[],h=>by simp[W0] at h
def acB:List (Nat×Value)→Option (Nat×IntKind×Int)→Bool
 | [],none=>true
 | [(o,.int k n)],some (o',k',n')=>Nat.beq o o'&&(decide (k=k')&&decide (n=n'))
 |_,_=>false
theorem acA{l:List (Nat×Value)}(h:acB l none=true):l=[]:=by
 unfold acB at h
 split at h
 ·rfl
 ·rename_i heq;cases heq
 cases h
theorem acz{l:List (Nat×Value)}{o:Nat}{k:IntKind}{n:Int}(h:acB l (some (o,k,n))=true):l=[(o,.int k n)]:=by
 unfold acB at h
 split at h
 ·rename_i heq;cases heq
 ·rename_i heq
  cases heq
  simp only[Bool.and_eq_true,decide_eq_true_eq] at h
  rw[Nat.eq_of_beq_eq_true h.1,h.2.1,h.2.2]
 cases h
def E8(P:Program)(ty:TypeId)(c:Nh)(m:Bool)(wr:Option (Nat×IntKind×Int))(ks:List (Nat×Nat))(fr:Frame)(iN:List Frame)(k:Frame→List Frame→Bl):Bl:=
 match asT P ty c fr iN with
 |some (n9,gz,ws,ks',b1,b2)=>bif acB ws wr&&(W0 ks' ks&&(!m||b1.isEmpty)) then akJ b1 (akJ b2 (k n9 gz)) else none
 |none=>none
section
variable {P:Program} {ty:TypeId} {W:Nat}
theorem ama{c:Nh}{gz:List Frame}{ws:List (Nat×Value)}{ks:List (Nat×Nat)}{b1 b2:List Nat}(h:asT P ty c fr iN=some (n9,gz,ws,ks,b1,b2))(h1:∀b∈b1,b=W)(h2:∀b∈b2,b=W)
 {w:World}(hc:(c=jW∧b1=[])∨mM ty W w c)(cs:List Frame)(main:Bool):stepG P main (G fr (iN++cs)) w= .go (G n9 (gz++cs)) (NR W w ws) (ks.map (WM W)).toArray:=by
 unfold asT at h
 split at h<;>try (cases h;done)
 rename_i h0
 split at h<;>try (cases h;done)
 rename_i hk
 simp only[Option.some.injEq,Prod.mk.injEq] at h
 obtain⟨rfl,rfl,rfl,rfl,rfl,rfl⟩:=h
 have:=rD h0 h1 hc cs main
 simp only[OV.is] at this
 rw[this,M4 hk h2]
def wrote(W:Nat)(w:World):Option (Nat×IntKind×Int)→World
 |none=>w
 |some (o,k,n)=>w.setCell ⟨W,o,none⟩ (.int k n)
theorem iA{c:Nh}{m:Bool}{x:Option (Nat×IntKind×Int)}{ks:List (Nat×Nat)}{k:Frame→List Frame→Bl}{bs:List Nat}(h:E8 P ty c m x ks fr iN k=some bs)(hb:∀b∈bs,b=W):
 ∃n9 gz xp,k n9 gz=some xp∧(∀b∈xp,b=W)∧∀cs main w,((c=jW∧m=true)∨mM ty W w c)→stepG P main (G fr (iN++cs)) w= .go (G n9 (gz++cs)) (wrote W w x) (ks.map (WM W)).toArray:=by
 unfold E8 at h
 split at h<;>try (cases h;done)
 rename_i n9 gz ws ks' b1 b2 hv
 cases hq:(acB ws x&&(W0 ks' ks&&(!m||b1.isEmpty))) with
 |false=>rw[hq] at h;cases h
 |true=>
 rw[hq] at h;simp only[cond_true] at h
 simp only[Bool.and_eq_true] at hq
 obtain⟨q1,q2,q3⟩:=hq
 obtain⟨h1,y,hy,hy'⟩:=Pw h hb
 obtain⟨h2,z,hz,FA⟩:=Pw hy hy'
 refine⟨n9,gz,z,hz,FA,fun cs main w hc=>?_⟩
 have:=ama hv h1 h2 (w:=w) (by
  rcases hc with ⟨hc,hm⟩|hc
  ·subst hm
   simp at q3
   exact .inl ⟨hc,q3⟩
  exact .inr hc) cs main
 rw[this,aab q2]
 cases x with
 |none=>rw[acA q1];rfl
 |some x=>
  obtain⟨o,kd,n⟩:=x
  rw[acz q1];rfl
theorem Wt{k:Frame→List Frame→Bl}:∀ {n:Nat} {fr:Frame} {iN:List Frame} {bs:List Nat},ET P ty n fr iN k=some bs→(∀b∈bs,b=W)→
 ∀(T:Frame→List Frame→Prop),(∀n9 gz xp,k n9 gz=some xp→(∀b∈xp,b=W)→T n9 gz)→
 (∀fr iN n9 gz,(∀cs main w,mM ty W w jW→stepG P main (G fr (iN++cs)) w= .go (G n9 (gz++cs)) w #[])→T n9 gz→T fr iN)→T fr iN
 |0,_,_,_,h,_,_,_,_=>by cases h
 |n+1,fr,iN,bs,h,hb,T,hk,hs=>by
  simp only[ET] at h
  split at h
  ·rename_i n9 gz b1 h0
   obtain⟨h1,y,hy,hy'⟩:=Pw h hb
   refine hs fr iN n9 gz (fun cs main w hc=>?_) (Wt hy hy' T hk hs)
   have:=rD h0 h1 (.inr hc) cs main
   simp only[OV.is] at this
   rw[this];rfl
  exact hk _ _ _ h hb
end
section
variable {ι:Type} (E:eo ι)
theorem HE{w:World}(h:E.live w):mM E.ty E.Wg w jW:=by
 obtain⟨st,sm,h⟩:=h
 exact⟨_,_,h,by simp,by simp⟩
theorem pn{w:World}(h:WgAt E.ty E.Wg w st sm):mM E.ty E.Wg w (some (i64 st),some (i32 sm)):=⟨_,_,h,by simp[i64],by simp[i32]⟩
theorem atG{w:World}(h:WgAt E.ty E.Wg w st sm):mM E.ty E.Wg w (none,some (i32 sm)):=⟨_,_,h,by simp,by simp[i32]⟩
variable {E}
theorem fI{Stop:Goroutine→Prop}{k:Frame→List Frame→Bl}{bs:List Nat}(h:ET E.P E.ty n fr iN k=some bs)(hb:∀b∈bs,b=E.Wg)
 (hk:∀n9 gz xp,k n9 gz=some xp→(∀b∈xp,b=E.Wg)→Stop (G n9 (gz++cs))):E.pure main Stop (G fr (iN++cs)):=by
 refine Wt h hb (fun fr iN=>E.pure main Stop (G fr (iN++cs))) (fun n9 gz xp h1 h2=>⟨0,hk _ _ _ h1 h2⟩) fun fr iN n9 gz h1 ⟨m,hm⟩=>⟨m+1,rfl,_,fun w hw=>h1 cs main w (HE E hw),hm⟩
theorem OY{L:Nat→Option Obj}{pend d0:Nat}{os:List ι}{s:St}{k:Frame→List Frame→Bl}{bs:List Nat}(h:ET E.P E.ty n fr iN k=some bs)(hb:∀b∈bs,b=E.Wg)
 (hk:∀n9 gz xp,k n9 gz=some xp→(∀b∈xp,b=E.Wg)→TC E L Q pend false os d0 (G n9 (gz++cs)) s):TC E L Q pend false os d0 (G fr (iN++cs)) s:=
 Wt h hb (fun fr iN=>TC E L Q pend false os d0 (G fr (iN++cs)) s) hk fun fr iN n9 gz h1 hT=>XH rfl (fun w hw=>h1 cs true w (HE E hw)) hT
def goR(P:Program)(ty:TypeId):Nat→Frame→List Frame→Bl
 |0,_,_=>none
 |n+1,fr,iN=>match Rs P ty jW fr iN with
  |some (.go n9 gz,[],[],[])=>goR P ty n n9 gz
  |some (.ret (.tuple ⟨[]⟩),[],[],[])=>some []
  |_=>none
theorem Wq{c:Frame}:∀ {n:Nat} {fr:Frame} {iN:List Frame} {bs:List Nat},goR P ty n fr iN=some bs→
 ∀(main:Bool) (T:Goroutine→Prop),T (G (c.finish (.tuple #[])) cs)→(∀g g',g.status= .running→g'.status= .running→(∀w,stepG P main g w= .go g' w #[])→T g'→T g)→T (G fr (iN++c::cs))
 |0,_,_,_,h,_,_,_,_=>by cases h
 |n+1,fr,iN,bs,h,main,T,hT,hs=>by
  simp only[goR] at h
  split at h
  ·rename_i n9 gz h0
   refine hs _ _ rfl rfl (fun w=>?_) (Wq h main T hT hs)
   have:=rD (W:=0) (w:=w) h0 (by simp) (.inl ⟨rfl,rfl⟩) (c::cs) main
   simp only[OV.is] at this
   rw[this];rfl
  ·rename_i h0
   refine hs _ _ rfl rfl (fun w=>?_) hT
   have:=rD (W:=0) (w:=w) h0 (by simp) (.inl ⟨rfl,rfl⟩) (c::cs) main
   simp only[OV.is] at this
   have h2:=this c cs rfl
   rw[h2];rfl
  cases h
def RI:List Event→Bool
 | []=>true
 |e::l=>e.mute&&RI l
def goQ(P:Program)(ty:TypeId):Nat→Nat→Frame→List Frame→Bl
 |0,_,_,_=>none
 |n+1,d,fr,iN=>match Rs P ty jW fr iN with
  |some (.go n9 gz,[],es,[])=>bif RI es then goQ P ty n (deafBehind d es.toArray) n9 gz else none
  |some (.atZ,[],[],[])=>bif Nat.beq d 0 then some [] else none
  |_=>none
theorem RG:∀ {es:List Event},RI es=true→∀e∈es,e.mute=true
 | [],_,e,he=>by cases he
 |x::l,h,e,he=>by
  simp only[RI,Bool.and_eq_true] at h
  rcases List.mem_cons.1 he with rfl|he
  ·exact h.1
  exact RG h.2 e he
theorem Ws{c:Frame}{q:Nat}(hc:c.mode= .returning∨∃ch,c.mode= .panicking [⟨ch,false,true⟩])(hq:QuitsD P q 0 (G c cs)):∀ {n d:Nat} {fr:Frame} {iN:List Frame} {bs:List Nat},goQ P ty n d fr iN=some bs→
 ∃q,QuitsD P q d (G fr (iN++c::cs))
 |0,_,_,_,_,h=>by cases h
 |n+1,d,fr,iN,bs,h=>by
  simp only[goQ] at h
  split at h
  ·rename_i n9 gz es h0
   cases hm:RI es with
   |false=>rw[hm] at h;cases h
   |true=>
   rw[hm] at h;simp only[cond_true] at h
   obtain⟨q',Gp⟩:=Ws hc hq h
   refine⟨q'+1,.inr ⟨rfl,_,es.toArray,fun e he=>RG hm e (by simpa using he),fun w=>?_,Gp⟩⟩
   have:=rD (W:=0) (w:=w) h0 (by simp) (.inl ⟨rfl,rfl⟩) (c::cs) false
   simp only[OV.is] at this
   rw[this];rfl
  ·rename_i h0
   cases hd:Nat.beq d 0 with
   |false=>rw[hd] at h;cases h
   |true=>
   have:d=0:=Nat.eq_of_beq_eq_true hd
   subst this
   refine⟨q+1,.ctl rfl (fun w=>?_) hq⟩
   have:=rD (W:=0) (w:=w) h0 (by simp) (.inl ⟨rfl,rfl⟩) (c::cs) false
   simp only[OV.is] at this
   have h2:=this c cs rfl hc
   rw[h2];rfl
  cases h
end
section
variable (P:Program) (ty:TypeId)
abbrev ZZ(a b:Int):Nh:=(some (i64 a),some (i32 b))
abbrev aBN:List (Nat×Nat):=[(1,0),(7,1),(8,1),(2,0)]
def aku(f:Frame)(s:List Frame):Bl:=bif mayWake P (G f []) then E8 P ty (ZZ 0 0) false (some (1,.u32,1)) aBN f s (goQ P ty 300 1) else none
def asl(f:Frame)(s:List Frame):Bl:=E8 P ty (ZZ 1 0) false (some (0,.u64,0)) [(8,0)] f s fun f s=>ET P ty 300 f s (aku P ty)
def asm(f:Frame)(s:List Frame):Bl:=E8 P ty (ZZ 1 0) false none [(7,0)] f s fun f s=>ET P ty 300 f s (asl P ty)
def WS(f:Frame)(s:List Frame)(v wt:Nat):Bl:=
 E8 P ty (ZZ (((v+1:Nat):Int)*KK+(wt:Int)) 0) false (some (0,.u64,(v:Int)*KK+(wt:Int))) [(7,0),(8,0)] f s fun f s=>bif Nat.beq v 0&&Nat.beq wt 1 then ET P ty 300 f s (asm P ty) else goQ P ty 300 1 f s
def asn(mx:Nat)(f:Frame)(s:List Frame):Bl:=akP (fun v=>both (WS P ty f s v 0) (WS P ty f s v 1)) (List.range mx)
def asj(mx:Nat)(f:Frame)(s:List Frame):Bl:=E8 P ty jW true none [(1,0)] f s fun f s=>ET P ty 300 f s (asn P ty mx)
def asi(mx:Nat)(f:Frame)(s:List Frame):Bl:=E8 P ty jW true none [(3,0)] f s fun f s=>ET P ty 300 f s (asj P ty mx)
def x5(mx:Nat)(f:Frame):Bl:=ET P ty 300 f [] (asi P ty mx)
def aso(f:Frame)(s:List Frame):Bl:=E8 P ty jW true none [(4,0)] f s (goR P ty 300)
def ZX(f:Frame)(s:List Frame):Bl:=E8 P ty jW true none [(2,0)] f s fun f s=>ET P ty 300 f s (aso P ty)
def asf(f:Frame)(s:List Frame):Bl:=E8 P ty (ZZ 0 0) false none [(7,0)] f s fun f s=>ET P ty 300 f s (ZX P ty)
def aHR(c:Nh)(f:Frame)(s:List Frame):Bl:=match Rs P ty c f s with
 |some (.block,[],[],bs)=>some bs
 |_=>none
def asg(f:Frame)(s:List Frame):Bl:=both (aHR P ty (none,some (i32 0)) f s) (E8 P ty (ZZ 0 1) false (some (1,.u32,0)) aBN f s fun f s=>ET P ty 300 f s (asf P ty))
def ase(f:Frame)(s:List Frame):Bl:=E8 P ty jW true none [(6,1)] f s fun f s=>ET P ty 300 f s (asg P ty)
def ash(anh:Frame→List Frame→Bl)(vs:Nat)(f:Frame)(s:List Frame):Bl:=
 both (E8 P ty (ZZ ((vs:Int)*KK) 0) false (some (0,.u64,(vs:Int)*KK+1)) [(7,0),(8,0)] f s fun f s=>ET P ty 300 f s (ase P ty))
  (akP (fun v:Nat=>E8 P ty (ZZ ((v:Int)*KK) 0) false none [(7,0)] f s fun f s=>ET P ty 300 f s anh) (List.range vs))
def Tw:Nat→Frame→List Frame→Bl
 |0,f,s=>E8 P ty (ZZ 0 0) false none [(7,0)] f s fun f s=>ET P ty 300 f s (ZX P ty)
 |b+1,f,s=>both (E8 P ty (ZZ 0 0) false none [(7,0)] f s fun f s=>ET P ty 300 f s (ZX P ty))
  (akP (fun v:Nat=>E8 P ty (ZZ (((v+1:Nat):Int)*KK) 0) false none [(7,0)] f s fun f s=>ET P ty 300 f s (ash P ty (Tw b) (v+1))) (List.range (b+1)))
def Ca(mx:Nat)(f:Frame):Bl:=ET P ty 300 f [] fun f s=>E8 P ty jW true none [(1,0)] f s fun f s=>ET P ty 300 f s (Tw P ty mx)
def Ja(v:Nat)(f:Frame):Bl:=
 ET P ty 300 f [] fun f s=>E8 P ty jW true none [(1,0)] f s fun f s=>ET P ty 300 f s fun f s=>
  E8 P ty (ZZ ((v:Int)*KK) 0) false (some (0,.u64,((v+1:Nat):Int)*KK)) [(7,0),(8,0)] f s fun f s=>ET P ty 300 f s fun f s=>
   bif Nat.beq v 0 then E8 P ty jW false none [(5,1)] f s fun f s=>ET P ty 300 f s fun f s=>E8 P ty jW true none [(2,0)] f s (goR P ty 300)
   else E8 P ty jW true none [(2,0)] f s (goR P ty 300)
end
section
variable {ι:Type} {E:eo ι}
section leave
variable {c:Frame} {cs:List Frame} (hc:c.mode= .returning∨∃ch,c.mode= .panicking [⟨ch,false,true⟩]) {q0:Nat} (hq:QuitsD E.P q0 0 (G c cs))
include hc hq
theorem akt{bs:List Nat}(h:aku E.P E.ty f s=some bs)(hb:∀b∈bs,b=E.Wg):E.D4 (G f (s++c::cs)):=by
 unfold aku at h
 cases hm:mayWake E.P (G f []) with
 |false=>rw[hm] at h;cases h
 |true=>
 rw[hm] at h;simp only[cond_true] at h
 obtain⟨f',s',xp,h1,h2,h3⟩:=iA h hb
 exact⟨rfl,hm,_,fun w hw=>h3 _ _ w (.inr (pn E hw)),Ws hc hq h1⟩
theorem akv{bs:List Nat}(h:asl E.P E.ty f s=some bs)(hb:∀b∈bs,b=E.Wg):E.D3 (G f (s++c::cs)):=by
 obtain⟨f',s',xp,h1,h2,h3⟩:=iA h hb
 exact⟨rfl,_,fun w hw=>h3 _ _ w (.inr (pn E hw)),fI h1 h2 fun _ _ _ k1 k2=>akt hc hq k1 k2⟩
theorem akw{bs:List Nat}(h:asm E.P E.ty f s=some bs)(hb:∀b∈bs,b=E.Wg):E.D2 (G f (s++c::cs)):=by
 obtain⟨f',s',xp,h1,h2,h3⟩:=iA h hb
 exact⟨rfl,_,fun w hw=>h3 _ _ w (.inr (pn E hw)),fI h1 h2 fun _ _ _ k1 k2=>akv hc hq k1 k2⟩
theorem akx{bs:List Nat}(h:asn E.P E.ty E.max f s=some bs)(hb:∀b∈bs,b=E.Wg):E.D1 (G f (s++c::cs)):=by
 refine⟨rfl,fun v wt hwt hv=>?_⟩
 obtain⟨a,h1,h2⟩:=Gz h hb v (List.mem_range.2 hv)
 have key:∃a,WS E.P E.ty f s v wt=some a∧∀b∈a,b=E.Wg:=by
  obtain⟨k1,k2⟩:=Cf h1 h2
  match wt,hwt with
  |0,_=>exact k1
  |1,_=>exact k2
 obtain⟨a',k1,k2⟩:=key
 obtain⟨f',s',xp,j1,j2,j3⟩:=iA k1 k2
 refine⟨_,fun w hw=>j3 _ _ w (.inr (pn E hw)),fun hh=>?_,fun hh=>?_⟩
 ·obtain⟨rfl,rfl⟩:=hh
  exact fI j1 j2 fun _ _ _ k1 k2=>akw hc hq k1 k2
 have:(Nat.beq v 0&&Nat.beq wt 1)=false:=by
  cases hx:(Nat.beq v 0&&Nat.beq wt 1) with
  |false=>rfl
  |true=>
   simp only[Bool.and_eq_true] at hx
   exact absurd ⟨Nat.eq_of_beq_eq_true hx.1,Nat.eq_of_beq_eq_true hx.2⟩ hh
 rw[this] at j1;simp only[cond_false] at j1
 exact Ws hc hq j1
theorem aks{bs:List Nat}(h:asj E.P E.ty E.max f s=some bs)(hb:∀b∈bs,b=E.Wg):E.K1 (G f (s++c::cs)):=by
 obtain⟨f',s',xp,h1,h2,h3⟩:=iA h hb
 exact⟨rfl,_,fun w=>h3 _ _ w (.inl ⟨rfl,rfl⟩),fI h1 h2 fun _ _ _ k1 k2=>akx hc hq k1 k2⟩
theorem akr{bs:List Nat}(h:asi E.P E.ty E.max f s=some bs)(hb:∀b∈bs,b=E.Wg):E.R0 (G f (s++c::cs)):=by
 obtain⟨f',s',xp,h1,h2,h3⟩:=iA h hb
 exact⟨rfl,_,fun w=>h3 _ _ w (.inl ⟨rfl,rfl⟩),fI h1 h2 fun _ _ _ k1 k2=>aks hc hq k1 k2⟩
theorem I9{bs:List Nat}(h:x5 E.P E.ty E.max f=some bs)(hb:∀b∈bs,b=E.Wg):E.pure false E.R0 (G f (c::cs)):=
 fI (iN:=[]) h hb fun _ _ _ k1 k2=>akr hc hq k1 k2
end leave
section close
variable {c:Frame} {cs:List Frame} {st:St} (hT:eY E.P false E.KP (G (c.finish (.tuple #[])) cs) st)
include hT
theorem aky{bs:List Nat}(h:aso E.P E.ty f s=some bs)(hb:∀b∈bs,b=E.Wg):E.Aq st (G f (s++c::cs)):=by
 obtain⟨f',s',xp,h1,h2,h3⟩:=iA h hb
 have key:=Wq (c:=c) (cs:=cs) h1 false (fun g=>eY E.P false E.KP g st) hT fun g g' hg hg' bX hT'=>(ez _ _ _).go hg hg' bX hT'
 obtain⟨tr,iL,hle,ht⟩:=key
 exact⟨rfl,_,fun w=>h3 _ _ w (.inl ⟨rfl,rfl⟩),tr,iL,hle,ht⟩
theorem I8{bs:List Nat}(h:ZX E.P E.ty f s=some bs)(hb:∀b∈bs,b=E.Wg):E.Ke st (G f (s++c::cs)):=by
 obtain⟨f',s',xp,h1,h2,h3⟩:=iA h hb
 exact⟨rfl,_,fun w=>h3 _ _ w (.inl ⟨rfl,rfl⟩),fI h1 h2 fun _ _ _ k1 k2=>aky hT k1 k2⟩
theorem ako{bs:List Nat}(h:asf E.P E.ty f s=some bs)(hb:∀b∈bs,b=E.Wg):E.W4 st (G f (s++c::cs)):=by
 obtain⟨f',s',xp,h1,h2,h3⟩:=iA h hb
 exact⟨rfl,_,fun w hw=>h3 _ _ w (.inr (pn E hw)),fI h1 h2 fun _ _ _ k1 k2=>I8 hT k1 k2⟩
theorem akp{bs:List Nat}(h:asg E.P E.ty f s=some bs)(hb:∀b∈bs,b=E.Wg):E.W3 st (G f (s++c::cs)):=by
 obtain⟨⟨b1,k1,k2⟩,b2,k3,k4⟩:=Cf h hb
 obtain⟨f',s',xp,h1,h2,h3⟩:=iA k3 k4
 refine⟨rfl,rfl,fun w n hw=>?_,_,fun w hw=>h3 _ _ w (.inr (pn E hw)),fI h1 h2 fun _ _ _ k1 k2=>ako hT k1 k2⟩
 unfold aHR at k1
 split at k1<;>try (cases k1;done)
 rename_i h0
 simp only[Option.some.injEq] at k1;subst k1
 have:=rD h0 k2 (w:=w) (.inr (atG E hw)) (c::cs) false
 simp only[OV.is] at this
 rw[this];rfl
theorem akn{bs:List Nat}(h:ase E.P E.ty f s=some bs)(hb:∀b∈bs,b=E.Wg):E.Wr st (G f (s++c::cs)):=by
 obtain⟨f',s',xp,h1,h2,h3⟩:=iA h hb
 exact⟨rfl,_,fun w=>h3 _ _ w (.inl ⟨rfl,rfl⟩),fI h1 h2 fun _ _ _ k1 k2=>akp hT k1 k2⟩
theorem akq{anh:Frame→List Frame→Bl}{akY:Goroutine→Prop}(hm:∀f s bs,anh f s=some bs→(∀b∈bs,b=E.Wg)→akY (G f (s++c::cs))){vs:Nat}{bs:List Nat}(h:ash E.P E.ty anh vs f s=some bs)(hb:∀b∈bs,b=E.Wg):
 E.W2 (E.pure false akY) st vs (G f (s++c::cs)):=by
 obtain⟨⟨b1,k1,k2⟩,b2,k3,k4⟩:=Cf h hb
 obtain⟨f',s',xp,h1,h2,h3⟩:=iA k1 k2
 refine⟨rfl,⟨_,fun w hw=>h3 _ _ w (.inr (pn E hw)),fI h1 h2 fun _ _ _ k1 k2=>akn hT k1 k2⟩,fun v hv=>?_⟩
 obtain⟨a,j1,j2⟩:=Gz k3 k4 v (List.mem_range.2 hv)
 obtain⟨f2,s2,bs2,i1,i2,i3⟩:=iA j1 j2
 exact⟨_,fun w hw=>i3 _ _ w (.inr (pn E hw)),fI i1 i2 fun _ _ _ k1 k2=>hm _ _ _ k1 k2⟩
theorem Tv:∀ {b:Nat} {f:Frame} {s:List Frame} {bs:List Nat},Tw E.P E.ty b f s=some bs→(∀b∈bs,b=E.Wg)→E.W1 st b (G f (s++c::cs))
 |0,f,s,bs,h,hb=>by
  simp only[Tw] at h
  obtain⟨f',s',xp,h1,h2,h3⟩:=iA h hb
  exact⟨rfl,_,fun w hw=>h3 _ _ w (.inr (pn E hw)),fI h1 h2 fun _ _ _ k1 k2=>I8 hT k1 k2⟩
 |b+1,f,s,bs,h,hb=>by
  simp only[Tw] at h
  obtain⟨⟨b1,k1,k2⟩,b2,k3,k4⟩:=Cf h hb
  obtain⟨f',s',xp,h1,h2,h3⟩:=iA k1 k2
  refine⟨rfl,⟨_,fun w hw=>h3 _ _ w (.inr (pn E hw)),fI h1 h2 fun _ _ _ k1 k2=>I8 hT k1 k2⟩,fun v hv1 hv2=>?_⟩
  obtain⟨u,rfl⟩:∃u,v=u+1:=⟨v-1,by omega⟩
  obtain⟨a,j1,j2⟩:=Gz k3 k4 u (List.mem_range.2 (by omega))
  obtain⟨f2,s2,bs2,i1,i2,i3⟩:=iA j1 j2
  exact⟨_,fun w hw=>i3 _ _ w (.inr (pn E hw)),fI i1 i2 fun _ _ _ k1 k2=>akq hT (akY:=E.W1 st b) (fun _ _ _ m1 m2=>Tv m1 m2) k1 k2⟩
theorem I7{bs:List Nat}(h:Ca E.P E.ty E.max f=some bs)(hb:∀b∈bs,b=E.Wg):E.closes st (G f (c::cs)):=
 fI (iN:=[]) h hb fun _ _ _ k1 k2=>by
  obtain⟨f',s',xp,h1,h2,h3⟩:=iA k1 k2
  exact⟨rfl,_,fun w=>h3 _ _ w (.inl ⟨rfl,rfl⟩),fI h1 h2 fun _ _ _ k1 k2=>Tv hT k1 k2⟩
end close
theorem M8{L:Nat→Option Obj}{os:List ι}{s:St}{c:Frame}{bs:List Nat}(h:Ja E.P E.ty os.length f=some bs)(hb:∀b∈bs,b=E.Wg)(Kw:os.length <E.max)
 (hT:TC E L Q 1 false os 0 (G (c.finish (.tuple #[])) cs) s):TC E L Q 0 false os 0 (G f (c::cs)) s:=by
 have qI:∀ {f:Frame} {iN:List Frame} {bs:List Nat},E8 E.P E.ty jW true none [(2,0)] f iN (goR E.P E.ty 300)=some bs→(∀b∈bs,b=E.Wg)→TC E L Q 1 false os 1 (G f (iN++c::cs)) s:=by
  intro f iN bs h hb
  obtain⟨f',s',xp,h1,h2,h3⟩:=iA h hb
  refine Gc (mC:=1) (d':=0) rfl rfl (fun w st sm hw hz _=>⟨w,h3 _ _ w (.inl ⟨rfl,rfl⟩),eW.refl w,by obtain⟨rfl,rfl⟩:=hz rfl;exact hw⟩) (by intro e he;simp[WM] at he;subst he;exact .inr (.inl rfl)) rfl id ?_
  exact Wq (c:=c) (cs:=cs) h1 true (fun g=>TC E L Q 1 false os 0 g s) hT fun g g' hg hg' bX hT'=>XH hg (fun w _=>bX w) hT'
 refine OY (iN:=[]) h hb fun f1 s1 b1 k1 k2=>?_
 obtain⟨f',s',xp,h1,h2,h3⟩:=iA k1 k2
 refine Gc (mC:=0) (d':=1) rfl rfl (fun w st sm hw hz _=>⟨w,h3 _ _ w (.inl ⟨rfl,rfl⟩),eW.refl w,by obtain⟨rfl,rfl⟩:=hz rfl;exact hw⟩) (by intro e he;simp[WM] at he;subst he;exact .inl rfl) rfl id ?_
 refine OY h1 h2 fun f2 s2 b2 k1 k2=>?_
 obtain⟨f',s',xp,h1,h2,h3⟩:=iA k1 k2
 refine Gc (mC:=1) (d':=1) rfl rfl (fun w st sm hw hz _=>⟨_,h3 _ _ w (.inr ?_),eW.set w 0 _,?_⟩) (by
  intro e he;simp[WM] at he
  rcases he with rfl|rfl<;>exact oy 0 _) rfl (fun _=>Kw) ?_
 ·obtain⟨rfl,rfl⟩:=hz rfl
  exact pn E hw
 ·obtain⟨rfl,rfl⟩:=hz rfl
  exact Go.ConcR.WgAt.setSt hw _
 refine OY h1 h2 fun f3 s3 b3 k1 k2=>?_
 cases hz:Nat.beq os.length 0 with
 |false=>
  rw[hz] at k1;simp only[cond_false] at k1
  exact qI k1 k2
 |true=>
  rw[hz] at k1;simp only[cond_true] at k1
  obtain⟨f',s',xp,h1,h2,h3⟩:=iA k1 k2
  refine amk rfl (fun w hw=>h3 _ _ w (.inr (HE E hw)))<|OY h1 h2 fun f4 s4 b4 k1 k2=>qI k1 k2
end
def CA(P:Program):Class:=fun main T=>Closed P main T
def aeD:Code→Nat
 | .seq a b=>aeD a+aeD b+1
 |_=>0
def gR(l:List Code):List Code:=l.flatMap jE
section
variable {P:Program} {main:Bool} {T:Goroutine→St→Prop} {b:Frame} {k:List Item} {cs:List Frame} {a:Act} {s:St} {n LF:Nat} {D:List Deferred} {call:cz} {ops:Array Oper}
 {ρ:aW} {ce e:Env} {m:Mem} {F:Nat×Obj→Prop} {R:Nat→Option Obj}
abbrev On(T:Goroutine→St→Prop)(b:Frame)(a:Act)(l:List Code)(k:List Item)(cs:List Frame)(s:St):Prop:=T (G (aK b a (l.map .code++k)) cs) s
theorem od(hT:Closed P main T){c0:Code}:∀ {l:List Code},gR l=c0::rest→(∀l',gR l'=rest→T (G (aK b a (.code c0::(l'.map .code++k))) cs) s)→On T b a l k cs s:=by
 intro l
 generalize hn:(l.map aeD).sum=q
 induction q using Nat.strongRecOn generalizing l with
 |_ q ih=>
  intro hl h
  cases l with
  |nil=>cases hl
  |cons c l=>
   cases hc:c with
   |seq x y=>
    subst hc
    refine hT.go rfl rfl (g':=G (aK b a ((x::y::l).map .code++k)) cs) (fun w=>by simp[G,stepG,stepG.exec,aK])<|ih ((x::y::l).map aeD).sum ?_ rfl ?_ h
    ·rw[←hn];simp[aeD];omega
    rw[←hl];simp[gR,jE]
   |_=>
    subst hc
    simp only[gR,List.flatMap_cons,jE,List.singleton_append,List.cons.injEq] at hl
    obtain⟨rfl,hl⟩:=hl
    exact h l hl
theorem dV(hT:Closed P main T)(hl:gR l= .region id ops false::rest)(h:∀l',gR l'=rest→T (G (aK b a (.inRegion ops (List.range ops.size)::(l'.map .code++k))) cs) s):On T b a l k cs s:=
 od hT hl fun l' An=>hT.go rfl rfl (g':=G (aK b a (.inRegion ops (List.range ops.size)::(l'.map .code++k))) cs) (fun w=>by simp[G,stepG,stepG.exec,aK]) (h l' An)
theorem BA(hT:Closed P main T){c:Operand}{x y:Code}{t:Bool}(hl:gR l= .cond c x y::rest)(hc:a.eval c= .bool t)(h:∀l',gR l'=rest→T (G (aK b a (.code (if t then x else y)::(l'.map .code++k))) cs) s):On T b a l k cs s:=
 od hT hl fun l' An=>hT.go rfl rfl (g':=G (aK b a (.code (if t then x else y)::(l'.map .code++k))) cs) (fun w=>by
  have he:=lu b a (.code (.cond c x y)::(l'.map .code++k))
  simp only[aK] at he
  simp only[G,stepG,stepG.exec,aK,he,hc]) (h l' An)
theorem wA(hT:Closed P main T){c:Code}(hl:gR l= .block id c::rest)(h:∀l',gR l'=rest→On T b a [c] (.inBlock id::(l'.map .code++k)) cs s):On T b a l k cs s:=
 od hT hl fun l' An=>hT.go rfl rfl (g':=G (aK b a (.code c:: .inBlock id::(l'.map .code++k))) cs) (fun w=>by simp[G,stepG,stepG.exec,aK]) (show T (G (aK b a (.code c:: .inBlock id::(l'.map .code++k))) cs) s from h l' An)
theorem DX(hT:Closed P main T)(h:T (G (aK b a k) cs) s):T (G (aK b a (.inBlock id::k)) cs) s:=
 hT.go rfl rfl (g':=G (aK b a k) cs) (fun w=>by simp[G,stepG,stepG.exec,aK]) h
theorem N1(hT:Closed P main T){c:Code}(hl:gR l= .loop c::rest)(h:∀l',gR l'=rest→On T b a [c] (.inLoop c::(l'.map .code++k)) cs s):On T b a l k cs s:=
 od hT hl fun l' An=>hT.go rfl rfl (g':=G (aK b a (.code c:: .inLoop c::(l'.map .code++k))) cs) (fun w=>by simp[G,stepG,stepG.exec,aK]) (show T (G (aK b a (.code c:: .inLoop c::(l'.map .code++k))) cs) s from h l' An)
theorem AN(hT:Closed P main T){c:Code}(h:On T b a [c] (.inLoop c::k) cs s):T (G (aK b a (.inLoop c::k)) cs) s:=
 hT.go rfl rfl (g':=G (aK b a (.code c:: .inLoop c::k)) cs) (fun w=>by simp[G,stepG,stepG.exec,aK]) h
theorem Pa(hT:Closed P main T)(h:T (G (aK b a k) cs) s):T (G (aK b a (.code .skip::k)) cs) s:=
 hT.go rfl rfl (g':=G (aK b a k) cs) (fun w=>by simp[G,stepG,stepG.exec,aK]) h
theorem Pb(hT:Closed P main T){k':List Item}(hk:exitTo id k=some k')(h:T (G (aK b a k') cs) s):T (G (aK b a (.code (.exit id)::k)) cs) s:=
 hT.go rfl rfl (g':=G (aK b a k') cs) (fun w=>by simp[G,stepG,stepG.exec,aK,hk]) h
theorem iH(hT:Closed P main T)(h:T (G (aK b a k) cs) s):T (G (aK b a (.inRegion ops []::k)) cs) s:=
 hT.go rfl rfl (g':=G (aK b a k) cs) (fun w=>by simp[G,stepG,stepG.exec,aK]) h
theorem qU(id:Nat):∀(l:List Code) (k:List Item),exitTo id (l.map .code++k)=exitTo id k
 | [],k=>rfl
 |c::l,k=>by
  rw[List.map_cons,List.cons_append]
  exact qU id l k
theorem tk(hT:Closed P main T){rest:List Nat}{o:Oper}(ho:ops[i]?=some o) (hw:Region.wanted o (yielded ops a.tmps)=true) (hk:b.kind≠ .early) (hb:b.roundOf=none)
 (h:bR P (execOp a.eval o) s (fun nx s'=>∃v,nx= .value v∧T (G (aK b (a.put o.dst v) (.inRegion ops rest::k)) cs) s') (fun _ _=>False)):T (G (aK b a (.inRegion ops (i::rest)::k)) cs) s:=by
 have ky:(b.kind==CallKind.early)=false:=by simpa using hk
 have gP:∀w,stepG P main (G (aK b a (.inRegion ops (i::rest)::k)) cs) w=stepG.apply P true (aK b a (.inRegion ops (i::rest)::k)) cs none (execOp a.eval o) w:=by
  intro w
  have he:=lu b a (.inRegion ops (i::rest)::k)
  simp only[aK] at he
  simp only[G,stepG,stepG.exec,aK,ho,Option.map_some,Option.getD_some,hw,if_true,stepG.oper,Frame.oper?,he]
  rw[hb]
 refine hT.step _ _ rfl fun w pX=>?_
 obtain⟨r,es,hr,hl⟩:=gX _ _ _ _ w #[] h pX
 rw[Array.empty_append] at hr
 have nn:=gP w
 simp only[stepG.apply,if_true,hr] at nn
 simp only[aK,ky,Bool.false_eq_true,if_false] at nn
 cases r with
 |ok nx w'=>
  obtain⟨s',ht,v,rfl,hv⟩:=hl
  simp only[GStep.after,Array.append_empty] at nn
  have mS:=fQ b a ops i rest k v
  rw[ho] at mS
  simp only[Option.bind_some] at mS
  rw[←mS] at hv
  exact⟨_,_,_,s',nn,rfl,ht.sub (iV P b.fn es),hv⟩
 |halt hh w'=>
  obtain⟨s',ht,hu⟩:=hl
  exact hu.elim
theorem dI(o:Oper)(f:Nat→Option Bool)(h:o.guard=none):Region.wanted o f=true:=by unfold Region.wanted;rw[h]
end
def St.freeze(s:St):St:=⟨fun b=>match s.rw.find? (fun x=>x.1==b) with
 |some x=>some x.2
 |none=>s.ro b,[]⟩
theorem oX{l:List (Nat×Obj)}{b:Nat}{x:Nat×Obj}(h:l.find? (fun x=>x.1==b)=some x):x∈l∧x.1=b:=
 ⟨List.mem_of_find?_eq_some h,by simpa using List.find?_some h⟩
theorem w9{l:List (Nat×Obj)}(hn:(l.map (·.1)).Nodup){b:Nat}(h:(b,o)∈l):l.find? (fun x=>x.1==b)=some (b,o):=by
 induction l with
 |nil=>cases h
 |cons y l ih=>
  rw[List.map_cons,List.nodup_cons] at hn
  rcases List.mem_cons.1 h with rfl|h'
  ·simp
  have:y.1≠b:=fun e=>hn.1 (e▸List.mem_map.2 ⟨_,h',rfl⟩)
  rw[List.find?_cons_of_neg (by simpa using this)]
  exact ih hn.2 h'
theorem St.DO(s:St):s.freeze.le s:=by
 refine⟨s.rw,by simp[St.freeze],fun b o h=>?_⟩
 simp only[St.freeze] at h
 split at h
 ·rename_i x hx
  obtain⟨h1,h2⟩:=oX hx
  cases h
  subst h2
  exact .inr h1
 exact .inl h
theorem St.n8{s:St}{b:Nat}(h:s.ro b=some o)(ha:∀b o,(b,o)∈s.rw→s.ro b=none):s.freeze.ro b=some o:=by
 simp only[St.freeze]
 split
 ·rename_i x hx
  obtain⟨h1,h2⟩:=oX hx
  subst h2
  rw[ha x.1 x.2 h1] at h;cases h
 exact h
theorem St.tC{s:St}{b:Nat}(h:(b,o)∈s.rw)(hn:(s.rw.map (·.1)).Nodup):s.freeze.ro b=some o:=by
 simp only[St.freeze,w9 hn h]
section
variable {P:Program} {ρ:aW} {m:Mem} {F:Nat×Obj→Prop} {R:Nat→Option Obj} {s:St}
theorem Closed.kz(hT:Closed P main T)(hs:g.status= .running)(h:(∃w,aT s w)→T g s):T g s:=by
 by_cases ha:∃w,aT s w
 ·exact h ha
 exact hT.step _ _ hs fun w hw=>absurd ⟨w,hw⟩ ha
end
section
variable {P:Program} {main:Bool} {T:Goroutine→St→Prop} {b:Frame} {k:List Item} {cs:List Frame} {a:Act} {s:St} {n LF:Nat} {D:List Deferred} {call:cz} {ops:Array Oper}
 {ρ:aW} {ce e:Env} {m:Mem} {F:Nat×Obj→Prop} {R:Nat→Option Obj}
theorem Ro(hT:Closed P main T){rest:List Nat}{o:Oper}(ho:ops[i]?=some o) (hg:o.guard=none) (hk:b.kind≠ .early) (hb:b.roundOf=none) {f:FuncId} (az:o.op= .call ⟨.value (.func f),xs,ats⟩) (hf:FF P f)
 (h:T (G (Frame.enter P f (xs.map a.eval) .normal) (aK b a (.inRegion ops (i::rest)::k)::cs)) s):T (G (aK b a (.inRegion ops (i::rest)::k)) cs) s:=by
 have ky:(b.kind==CallKind.early)=false:=by simpa using hk
 have hw:Region.wanted o (yielded ops a.tmps)=true:=dI o _ hg
 have wJ:bR P (execOp a.eval o) s (fun nx s'=>nx= .enter f (xs.map a.eval)∧s'=s) (fun _ _=>False):=by
  have e1:a.eval (.func f)= .func (.func f) #[] #[]:=rfl
  simp only[execOp,az,resolve,e1,Deferred.ofValue,aa,af,invoke]
  have:(#[]++xs.map a.eval:Array Value)++ #[]=xs.map a.eval:=by simp
  rw[this]
  exact kO hf ⟨rfl,rfl⟩
 have gP:∀w,stepG P main (G (aK b a (.inRegion ops (i::rest)::k)) cs) w=stepG.apply P true (aK b a (.inRegion ops (i::rest)::k)) cs none (execOp a.eval o) w:=by
  intro w
  have he:=lu b a (.inRegion ops (i::rest)::k)
  simp only[aK] at he
  simp only[G,stepG,stepG.exec,aK,ho,Option.map_some,Option.getD_some,hw,if_true,stepG.oper,Frame.oper?,he]
  rw[hb]
 refine hT.step _ _ rfl fun w pX=>?_
 obtain⟨r,es,hr,hl⟩:=gX _ _ _ _ w #[] wJ pX
 rw[Array.empty_append] at hr
 have nn:=gP w
 simp only[stepG.apply,if_true,hr] at nn
 simp only[aK,ky,Bool.false_eq_true,if_false] at nn
 cases r with
 |ok nx w'=>
  obtain⟨s',ht,rfl,rfl⟩:=hl
  simp only[GStep.after,Array.append_empty] at nn
  exact⟨_,_,_,_,nn,rfl,ht.sub (iV P b.fn es),h⟩
 |halt hh w'=>
  obtain⟨s',ht,hu⟩:=hl
  exact hu.elim
def cZ(P:Program):Frame:={(default:Frame) with fn:=P.funcs.size,defers:=[],mode:= .panicking [goexitEntry]}
theorem Q8(P:Program):QuitsD P 1 0 (G (cZ P) []):=by
 have hc:(cZ P).catches P=false:=by
  simp[Frame.catches,cZ]
  rfl
 refine .ctl (g':={(G (cZ P) []) with status:= .finished}) rfl (fun w=>?_) ⟨rfl,rfl⟩
 have bX:stepG P false (G (cZ P) []) w=unwind P false (cZ P) [] none w:=rfl
 rw[bX]
 unfold unwind
 have h1:(cZ P).defers=[]:=rfl
 have h2:(cZ P).mode= .panicking [goexitEntry]:=rfl
 simp only[h1,h2,hc,Bool.false_eq_true,if_false]
 simp[goexitEntry,G]
theorem oB{fn:Func}(hm:fr.mode= .returning)(hd:fr.defers=[])(hk:fr.kind= .deferred)(hf:P.funcs[fr.fn]?=some fn) (hr:fn.results= #[]):QuitsD P 2 0 (G fr [cZ P]):=by
 refine .ctl rfl (fun w=>?_) (Q8 P)
 have h1:∀tm,results fn tm=Sem.pure (.tuple #[]):=by intro tm;simp[results,hr];rfl
 rcases fr with ⟨fn',tmps,todo,defers,mode,kind,ro⟩
 simp only at hm hd hk hf
 subst hm hd hk
 simp only[G,stepG,unwind,hf,h1,Sem.runT,seen_none,GStep.after,doReturn,cZ,goexitEntry,Array.append_empty]
end
structure TO where
 f:FuncId
 n:Nat
 cl:List Code
 o7:Array Oper
 o:Oper
 sc:Operand
 sv:Operand
 done:FuncId
def goE(P:Program)(ty:TypeId):Nat→Frame→List Frame→Option (Frame×List Frame)
 |0,fr,iN=>some (fr,iN)
 |n+1,fr,iN=>match Rs P ty jW fr iN with
  |some (.go n9 gz,[],[],[])=>goE P ty n n9 gz
  |_=>none
theorem Wu{T:Goroutine→Prop}(hs:∀g g',g.status= .running→g'.status= .running→(∀w,stepG P main g w= .go g' w #[])→T g'→T g):∀ {n:Nat} {fr n9:Frame} {iN gz:List Frame},goE P ty n fr iN=some (n9,gz)→T (G n9 (gz++cs))→T (G fr (iN++cs))
 |0,fr,n9,iN,gz,h,hT=>by simp only[goE,Option.some.injEq,Prod.mk.injEq] at h;obtain⟨rfl,rfl⟩:=h;exact hT
 |n+1,fr,n9,iN,gz,h,hT=>by
  simp only[goE] at h
  split at h<;>try (cases h;done)
  rename_i f1 s1 h0
  refine hs _ _ rfl rfl (fun w=>?_) (Wu hs h hT)
  have:=rD (W:=0) (w:=w) h0 (by simp) (.inl ⟨rfl,rfl⟩) cs main
  simp only[OV.is] at this
  rw[this];rfl
theorem Ji{f:FuncId}(hf:FF P f)(ca:Array Value)(w:World):stepG P main (born P {target:= .fn (.func f) ca,args:= #[]}) w= .go (G (Frame.enter P f (#[]++ca) .deferred) [cZ P]) w #[]:=by
 obtain⟨fn,h1,h2,h3⟩:=hf.ff
 have bY:(callFunc f (#[]++ca)).runT P w #[]=(.ok (.enter f (#[]++ca)) w,#[]):=by
  show (Sem.program _).runT P w #[]=_
  simp only[Sem.runT,Sem.bind,h1,h2,h3,Bool.false_eq_true,if_false]
  rfl
 simp only[born,stepG,unwind,callDeferred,invoke,bY,GStep.after,seen_none,Bool.false_and,Bool.false_eq_true,if_false,Array.append_empty,G,cZ]
structure Ng where
 f:FuncId
 n:Nat
 b:Frame
 q0:Array Oper
 o0:Oper
 rest:Code
 q1:Array Oper
 oc:Oper
 cx:Operand
 wait:FuncId
structure Ng.OK(P:Program)(ty:TypeId)(x:Ng):Prop where
 ff:CC P x.f=true
 fn:∃fn,P.funcs[x.f]?=some fn∧fn.results= #[]∧fn.norace=false
 bf:x.b.fn=x.f∧x.b.kind= .deferred∧x.b.roundOf=none
 enter:∀p1 p2:Value,goE P ty 3 (Frame.enter P x.f #[p1,p2] .deferred) []=some (Frame.enter P x.wait #[p1] .normal,[aK x.b (A x.n (fU 0 [p1,p2]) []) [.inRegion x.q0 [0],.code x.rest]])
 op0:x.q0[0]?=some x.o0
 rest:∃id,gR [x.rest]=[.region id x.q1 false]
 size:x.q1.size=2
 op:x.q1[1]?=some x.oc∧x.oc.guard=none∧∃ats,x.oc.op= .call {callee:= .builtin .close,args:= #[x.cx],argTypes:=ats}
theorem gE(h:gR l=[]):l=[]:=by
 cases l with
 |nil=>rfl
 |cons y l=>
  exfalso
  have:∀c:Code,jE c≠[]:=by
   intro c
   induction c with
   |seq p q ihp ihq=>simp[jE,ihp]
   |_=>simp[jE]
  simp only[gR,List.flatMap_cons,List.append_eq_nil_iff] at h
  exact this y h.1
theorem DV{b:Frame}(h:b.roundOf=none)(a:Act)(todo:List Item):aK b a todo=b.at a todo:=by simp[aK,Frame.at,h]
def Vm(P:Program):Sem Next→Nat→Option (Obj×Value)
 | .new o k,b=>match bC P (k b) with
  |some (.value v)=>some (o,v)
  |_=>none
 | .program k,b=>Vm P (k P) b
 |_,_=>none
theorem Hw{f:Nat→Value}{s:St}{K:Next→St→Prop}{E:Halt→St→Prop}(hK:∀b,¬s.knows b→K (.value (f b)) ⟨s.ro,(b,o)::s.rw⟩):∀(x:Sem Next),(∀b,Vm P x b=some (o,f b))→bR P x s K E:=by
 intro x
 induction x with
 |new o' k ih=>
  intro h b hb
  have h':=h b
  simp only[Vm] at h'
  split at h'<;>try (cases h';done)
  rename_i v hv
  simp only[Option.some.injEq,Prod.mk.injEq] at h'
  obtain⟨rfl,rfl⟩:=h'
  exact oL hv (hK b hb)
 |program k ih=>intro h;exact ih P h
 |_=>intro h;have:=h 0;simp[Vm] at this
structure rY where
 f:FuncId
 n:Nat
 fn:Func
 o0:Array Oper
 o1:Array Oper
 o2:Array Oper
 o3:Array Oper
 o4:Array Oper
 o5:Array Oper
 o6:Array Oper
 o7:Array Oper
 o8:Array Oper
 o9:Array Oper
 o10:Array Oper
 o11:Array Oper
 Df:Array Oper
 o13:Array Oper
 o14:Array Oper
 a1:Oper
 a2:Oper
 a6:Oper
 a7:Oper
 a9:Oper
 TN:Oper
 lb:Code
 EJ:Code
 rb:Code
 uW:Code
 c4:Operand
 c12:Operand
 b0:Nat
 b1:Nat
 b2:Nat
 b3:Nat
 fin:List Code
 add:FuncId
 apI:Operand
 sp:Operand
 sk:Operand
 rc:Operand
 wk:TO
 cl:Ng
 ty:TypeId
 mx:Nat
def c8(l:List Code)(i:Nat):Array Oper:=match l[i]? with
 |some (.region _ ops _)=>ops
 |_=> #[]
def eT(o:Array Oper)(i:Nat):Oper:=(o[i]?).getD default
def aga(l:List Code)(i:Nat):Nat×Code:=match l[i]? with
 |some (.block id (.loop c))=>(id,c)
 |_=>(0,.skip)
def Z6(l:List Code)(i:Nat):Nat×Code:=match l[i]? with
 |some (.block id c)=>(id,c)
 |_=>(0,.skip)
def akg(l:List Code)(i:Nat):Operand:=match l[i]? with
 |some (.cond c _ _)=>c
 |_=> .func 0
def Jg(o:Oper):FuncId:=match o.op with
 | .call ⟨.value (.func f),_,_⟩=>f
 | .defer ⟨.value (.func f),_,_⟩=>f
 |_=>0
def ast(o:Oper)(i:Nat):Operand:=match o.op with
 | .call ⟨_,xs,_⟩=>(xs[i]?).getD (.func 0)
 |_=> .func 0
def aG3(o:Oper):Operand:=match o.op with
 | .go ⟨.value x,_,_⟩=>x
 |_=> .func 0
def ar4(o:Oper):FuncId:=match o.op with
 | .makeFunc (.func f) _ _=>f
 |_=>0
def chanOf(o:Oper):Operand:=match o.op with
 | .recv _ c _=>c
 | .send c _=>c
 |_=> .func 0
def atH(o:Oper):Operand:=match o.op with
 | .send _ x=>x
 |_=> .func 0
def typeOf(o:Oper):TypeId:=match o.op with
 | .alloc t=>t
 |_=>0
def codeOf(P:Program)(f:FuncId):List Code:=match P.funcs[f]? with
 |some fn=>match fn.body with
  |some c=>jE c
  |none=>[]
 |none=>[]
def tmpsOf(P:Program)(f:FuncId):Nat:=match P.funcs[f]? with
 |some fn=>fn.ntmps
 |none=>0
def at0(P:Program)(f:FuncId):Code:=match P.funcs[f]? with
 |some fn=>match fn.body with
  |some (.seq _ c)=>c
  |_=> .skip
 |none=> .skip
def ayv(P:Program)(f:FuncId)(mx:Nat):rY:=
 let l:=codeOf P f
 let lb:=aga l 4
 let ll:=jE lb.2
 let bb:=Z6 ll 2
 let bl:=jE bb.2
 let rb:=aga l 8
 let rl:=jE rb.2
 let rbb:=Z6 rl 2
 let rbl:=jE rbb.2
 let wf:=ar4 (eT (c8 bl 2) 0)
 let wl:=codeOf P wf
 let cf:=ar4 (eT (c8 l 5) 0)
 let cl:=codeOf P cf
 {f,n:=tmpsOf P f,fn:=(P.funcs[f]?).getD default,o0:=c8 l 0,o1:=c8 l 1,o2:=c8 l 2,o3:=c8 l 3,o4:=c8 ll 0,o5:=c8 bl 0,o6:=c8 bl 1,o7:=c8 bl 2,o8:=c8 ll 3,
  o9:=c8 l 5,o10:=c8 l 6,o11:=c8 l 7,Df:=c8 rl 0,o13:=c8 rbl 0,o14:=c8 rbl 1,
  a1:=eT (c8 l 1) 0,a2:=eT (c8 l 2) 0,a6:=eT (c8 bl 1) 0,a7:=eT (c8 bl 2) 1,a9:=eT (c8 l 5) 1,TN:=eT (c8 rl 0) 0,
  lb:=lb.2,EJ:=bb.2,rb:=rb.2,uW:=rbb.2,c4:=akg ll 1,c12:=akg rl 1,b0:=lb.1,b1:=bb.1,b2:=rb.1,b3:=rbb.1,fin:=(l.drop 9).dropLast,
  add:=Jg (eT (c8 bl 1) 0),apI:=ast (eT (c8 bl 1) 0) 0,sp:=aG3 (eT (c8 bl 2) 1),sk:=aG3 (eT (c8 l 5) 1),rc:=chanOf (eT (c8 rl 0) 0),
  wk:={f:=wf,n:=tmpsOf P wf,cl:=wl.dropLast,o7:=c8 wl (wl.length-1),o:=eT (c8 wl (wl.length-1)) 2,sc:=chanOf (eT (c8 wl (wl.length-1)) 2),sv:=atH (eT (c8 wl (wl.length-1)) 2),done:=Jg (eT (c8 wl 0) 0)},
  cl:={f:=cf,n:=tmpsOf P cf,b:={(default:Frame) with fn:=cf,kind:= .deferred,roundOf:=none},q0:=c8 cl 0,o0:=eT (c8 cl 0) 0,rest:=at0 P cf,q1:=c8 cl 1,oc:=eT (c8 cl 1) 1,cx:=ast (eT (c8 cl 1) 1) 0,wait:=Jg (eT (c8 cl 0) 0)},
  ty:=typeOf (eT (c8 l 2) 0),mx}
theorem xK{k:Nat}:∀b∈List.replicate k W,b=W:=fun b hb=>(List.mem_replicate.1 hb).2
section
variable {ij:Os} {cH:Array (Nat×ByteArray)} {P:Program} {T:Goroutine→St→Prop} {b:Frame} {k:List Item} {cs:List Frame} {a:Act} {s:St} {n LF:Nat} {call:cz} {ops:Array Oper}
 {ρ:aW} {ce e:Env} {m:Mem} {x:rY} {Wg Ch:Nat} {L:Nat→Option Obj} {Q:Machine→Outcome→World→Trace→Prop}
theorem Gx{rest:List Nat}{o:Oper}(ho:ops[i]?=some o) (hg:o.guard=none) (hk:b.kind≠ .early) (hb:b.roundOf=none) {y:Operand} (az:o.op= .go ⟨.value y,#[],ats⟩) {f:FuncId} (hy:a.eval y= .func (.func f) #[] ca) (w:World):
 stepG P main (G (aK b a (.inRegion ops (i::rest)::k)) cs) w= .spawn (G (aK b (a.put o.dst undef) (.inRegion ops rest::k)) cs) (born P {target:= .fn (.func f) ca,args:= #[]}) w #[]:=by
 have hw:Region.wanted o (yielded ops a.tmps)=true:=dI o _ hg
 have hx:execOp a.eval o=Sem.pure (.spawn {target:= .fn (.func f) ca,args:= #[]}):=by
  simp only[execOp,az,resolve,hy,Deferred.ofValue]
  show Sem.pure (Next.spawn {target:= .fn (.func f) ca,args:= #[]++Array.map a.eval #[]})=_
  simp
 rw[DV hb,DV hb]
 have:=stepG_spawn (P:=P) (main:=main) (b:=b) (a:=a) (k:=k) (cs:=cs) (w:=w) (w':=w) (d:={target:= .fn (.func f) ca,args:= #[]}) ho hw hk (rest:=rest) (by rw[hx];rfl) rfl
 rw[this,listed_none (by rw[hx];rfl)]
end
theorem tV:∀ {x:Sem α} {a:α},bC P x=some a→∀(w:World) (es:Array Event),x.runT P w es=(.ok a w,es)
 | .pure _,_,h,w,es=>by simp only[bC,Option.some.injEq] at h;subst h;rfl
 | .program k,_,h,w,es=>tV (x:=k _) h w es
def C0(P:Program):Class:=fun main T=>main=true∧∃ij cH Post,T=T0 P ij cH Post
theorem x6:∀main T,C0 P main T→Closed P main T:=by
 rintro _ _ ⟨rfl,ij,cH,Post,rfl⟩
 exact sV P ij cH Post
abbrev CP(P:Program):Class:=fun main T=>Closed P main T
theorem fe:∀main T,CP P main T→Closed P main T:=fun _ _ h=>h
abbrev Cells:=List (Nat×Obj)
variable {Φ:Value→Cells→Prop} {B X rw' rw:Cells}
def Sub(ro aC:Nat→Option Obj):Prop:=∀b o,ro b=some o→aC b=some o
theorem Sub.refl(ro:Nat→Option Obj):Sub ro ro:=fun _ _ h=>h
theorem Sub.trans{a b c:Nat→Option Obj}(h:Sub a b)(k:Sub b c):Sub a c:=fun x o hx=>k x o (h x o hx)
structure acV(fr B:Cells)(ro:Nat→Option Obj)(s1 s:St):Prop where
 rw:s.rw.Perm (s1.rw++fr)
 aF:∀b o,s1.ro b=some o→s.ro b=some o∨(b,o)∈B
 keep:Sub ro s.ro
theorem x3(hT:Closed P main T){s:St}(hg:g.status= .running)(h:(∃w,aT s w)→T g s):T g s:=by
 by_cases hw:∃w,aT s w
 ·exact h hw
 exact hT.step g s hg fun w pX=>absurd ⟨w,pX⟩ hw
theorem BW(hT:Closed P main T){fr:Cells}(hB:∀x∈B,x∈fr)(ro:Nat→Option Obj):
 Closed P main (fun g s1=>g.status= .running→∀s,acV fr B ro s1 s→T g s) where
 step:=fun g s1 hg h _ s hc=>by
  refine hT.step g s hg fun w hw=>?_
  have PX:∀x,x∈s.rw↔x∈s1.rw∨x∈fr:=fun x=>by rw[hc.rw.mem_iff,List.mem_append]
  have mG:=(hc.rw.map (·.1)).nodup_iff.1 hw.nodup
  rw[List.map_append,List.nodup_append] at mG
  obtain⟨hn1,hn2,Zi⟩:=mG
  have aFY:∀b o o',(b,o)∈s1.rw→(b,o')∈fr→False:=fun b o o' h1 h2=>Zi b (List.mem_map.2 ⟨_,h1,rfl⟩) b (List.mem_map.2 ⟨_,h2,rfl⟩) rfl
  have aSC:aT s1 w:=by
   refine⟨fun b o hb=>?_,fun b o hb=>hw.rw b o ((PX _).2 (.inl hb)),hn1,fun b o hb=>?_⟩
   ·rcases hc.aF b o hb with h1|h1
    ·exact hw.ro b o h1
    exact hw.rw b o ((PX _).2 (.inr (hB _ h1)))
   cases hr:s1.ro b with
   |none=>rfl
   |some o'=>
    rcases hc.aF b o' hr with h1|h1
    ·rw[hw.apart b o ((PX _).2 (.inl hb))] at h1;cases h1
    exact(aFY b o o' hb (hB _ h1)).elim
  obtain⟨g',w',es,zn,bX,bY,ht,hT'⟩:=h w aSC
  have aic:∀b o,(b,o)∈fr→b <w.heap.size:=fun b o hb=>hw.lt (.inr ((PX _).2 (.inr hb)))
  have aw8:∀b o,(b,o)∈fr→¬s1.jK b:=fun b o hb ⟨o',Gq⟩=>aFY b o' o Gq hb
  have av9:∀b,s.ro b≠none→¬s1.jK b:=fun b hb ⟨o',Gq⟩=>hb (hw.apart b o' ((PX _).2 (.inl Gq)))
  have ahn:∀b,s.ro b≠none→b <w.heap.size:=fun b hb=>by
   cases hr:s.ro b with
   |none=>exact absurd hr hb
   |some o=>exact hw.lt (.inl hr)
  have aFJ:∀b o,(b,o)∈fr→w'.heap[b]?=some o:=fun b o hb=>by
   rw[ht.frame b (aic b o hb) (aw8 b o hb)]
   exact hw.rw b o ((PX _).2 (.inr hb))
  classical
  let aC:Nat→Option Obj:=fun b=>if ∃o,(b,o)∈fr then none else match zn.ro b with
   |some o=>some o
   |none=>s.ro b
  have awa:∀b o,aC b=some o→¬(∃o,(b,o)∈fr)∧(zn.ro b=some o∨(zn.ro b=none∧s.ro b=some o)):=fun b o hb=>by
   simp only[aC] at hb
   split at hb
   ·cases hb
   rename_i hn
   refine⟨hn,?_⟩
   cases h1:zn.ro b with
   |none=>rw[h1] at hb;exact .inr ⟨rfl,hb⟩
   |some o2=>rw[h1] at hb;exact .inl hb
  have aSB:aT ⟨aC,zn.rw++fr⟩ w':=by
   refine⟨fun b o hb=>?_,fun b o hb=>?_,?_,fun b o hb=>?_⟩
   ·obtain⟨_,h1| ⟨_,h2⟩⟩:=awa b o hb
    ·exact ht.kz.ro b o h1
    have ek:s.ro b≠none:=by rw[h2];simp
    rw[ht.frame b (ahn b ek) (av9 b ek)]
    exact hw.ro b o h2
   ·rcases List.mem_append.1 hb with hb|hb
    ·exact ht.kz.rw b o hb
    exact aFJ b o hb
   ·show ((zn.rw++fr).map (·.1)).Nodup
    rw[List.map_append,List.nodup_append]
    refine⟨ht.kz.nodup,hn2,fun x hx y hy e=>?_⟩
    obtain⟨⟨b,o⟩,h1,rfl⟩:=List.mem_map.1 hx
    obtain⟨⟨b2,o2⟩,h2,rfl⟩:=List.mem_map.1 hy
    dsimp only at e;subst e
    rcases ht.own b ⟨o,h1⟩ with h3|h3
    ·exact absurd (aic b o2 h2) (by omega)
    exact aw8 b o2 h2 h3
   show aC b=none
   rcases List.mem_append.1 hb with hb|hb
   ·cases hr:aC b with
    |none=>rfl
    |some o'=>
     obtain⟨hn,h1| ⟨_,h2⟩⟩:=awa b o' hr
     ·rw[ht.kz.apart b o hb] at h1;cases h1
     have ek:s.ro b≠none:=by rw[h2];simp
     rcases ht.own b ⟨o,hb⟩ with h3|h3
     ·exact absurd (ahn b ek) (by omega)
     exact(av9 b ek h3).elim
   simp only[aC]
   rw[if_pos ⟨o,hb⟩]
  have aF3:acV fr B ro zn ⟨aC,zn.rw++fr⟩:=by
   refine⟨.refl _,fun b o hb=>?_,fun b o hb=>?_⟩
   ·by_cases hf:∃o,(b,o)∈fr
    ·obtain⟨o2,JH⟩:=hf
     have e1:=ht.kz.ro b o hb
     rw[aFJ b o2 JH] at e1
     cases e1
     rcases ht.NB b (by rw[hb];simp) with h1|h1|h1
     ·exact absurd (aic b _ JH) (by omega)
     ·cases hr:s1.ro b with
      |none=>exact absurd hr h1
      |some o3=>
       rcases hc.aF b o3 hr with h3|h3
       ·rw[hw.apart b _ ((PX _).2 (.inr JH))] at h3;cases h3
       have e3:=hw.rw b o3 ((PX _).2 (.inr (hB _ h3)))
       rw[hw.rw b _ ((PX _).2 (.inr JH))] at e3
       cases e3
       exact .inr h3
     exact(aw8 b _ JH h1).elim
    left
    show aC b=some o
    simp only[aC]
    rw[if_neg hf,hb]
   have h1:=hc.keep b o hb
   have ek:s.ro b≠none:=by rw[h1];simp
   have hf:¬ ∃o,(b,o)∈fr:=fun⟨o2,JH⟩=>ek (hw.apart b o2 ((PX _).2 (.inr JH)))
   show aC b=some o
   simp only[aC]
   rw[if_neg hf]
   cases h2:zn.ro b with
   |none=>exact h1
   |some o2=>
    have e1:=ht.kz.ro b o2 h2
    rw[ht.frame b (ahn b ek) (av9 b ek),hw.ro b o h1] at e1
    exact e1.symm
  refine⟨g',w',es,⟨aC,zn.rw++fr⟩,bX,bY,⟨aSB,ht.size,fun b hb hn=>?_,fun b hb=>?_,fun b hb=>?_,ht.os,ht.output,ht.tape,fun e he=>?_,ht.low⟩,hT' bY _ aF3⟩
  ·exact ht.frame b hb fun⟨o,ho⟩=>hn ⟨o,(PX _).2 (.inl ho)⟩
  ·obtain⟨o,ho⟩:=hb
   rcases List.mem_append.1 ho with ho|ho
   ·rcases ht.own b ⟨o,ho⟩ with h3| ⟨o3,h3⟩
    ·exact .inl h3
    exact .inr ⟨o3,(PX _).2 (.inl h3)⟩
   exact .inr ⟨o,(PX _).2 (.inr ho)⟩
  ·have hb:aC b≠none:=hb
   cases hr:aC b with
   |none=>exact absurd hr hb
   |some o=>
    obtain⟨hn,h1| ⟨_,h2⟩⟩:=awa b o hr
    ·rcases ht.NB b (by rw[h1];simp) with h3|h3| ⟨o3,h3⟩
     ·exact .inl h3
     ·cases h4:s1.ro b with
      |none=>exact absurd h4 h3
      |some o4=>
       rcases hc.aF b o4 h4 with h5|h5
       ·exact .inr (.inl (by rw[h5];simp))
       exact absurd ⟨_,hB _ h5⟩ hn
     exact .inr (.inr ⟨o3,(PX _).2 (.inl h3)⟩)
    exact .inr (.inl (by rw[h2];simp))
  have Ud:=ht.vM e he
  have arB:∀b,(∃o,(b,o)∈s1.rw)→s.jK b:=fun b ⟨o,ho⟩=>⟨o,(PX _).2 (.inl ho)⟩
  have aEB:∀b,s1.ro b≠none→s.ro b≠none∨s.jK b:=fun b hb=>by
   cases h4:s1.ro b with
   |none=>exact absurd h4 hb
   |some o4=>
    rcases hc.aF b o4 h4 with h5|h5
    ·exact .inl (by rw[h5];simp)
    exact .inr ⟨o4,(PX _).2 (.inr (hB _ h5))⟩
  unfold JC at*
  split at Ud
  ·refine⟨Ud.1,?_⟩
   rcases Ud.2 with h1|h1| ⟨h1,h2⟩
   ·exact .inl h1
   ·exact .inr (.inl (arB _ h1))
   rcases aEB _ h2 with h3|h3
   ·exact .inr (.inr ⟨h1,h3⟩)
   exact .inr (.inl h3)
  ·refine⟨Ud.1,?_⟩
   rcases Ud.2 with h1|h1| ⟨h1,h2⟩
   ·exact .inl h1
   ·exact .inr (.inl (arB _ h1))
   rcases aEB _ h2 with h3|h3
   ·exact .inr (.inr ⟨h1,h3⟩)
   exact .inr (.inl h3)
  ·exact Ud
  exact Ud
 mono:=fun g s1 zn hl h bY s hc=>by
  refine x3 hT bY fun⟨w,hw⟩=>?_
  obtain⟨R,hR,BL⟩:=hl
  have PX:∀x,x∈s.rw↔x∈zn.rw∨x∈fr:=fun x=>by rw[hc.rw.mem_iff,List.mem_append]
  have axO:∀x,x∈R→x∈s.rw:=fun x hx=>(PX x).2 (.inl (hR.mem_iff.2 (List.mem_append_right _ hx)))
  classical
  let oA:Nat→Option Obj:=fun b=>if hx:∃o,(b,o)∈R then some (Classical.choose hx) else s.ro b
  have H2:∀b o,(b,o)∈R→oA b=some o:=fun b o hb=>by
   have hx:∃o,(b,o)∈R:=⟨o,hb⟩
   simp only[oA]
   rw[dif_pos hx]
   have h1:=hw.rw b _ (axO _ (Classical.choose_spec hx))
   rw[hw.rw b o (axO _ hb)] at h1
   cases h1;rfl
  have iI:∀b o,s.ro b=some o→oA b=some o:=fun b o hb=>by
   simp only[oA]
   rw[dif_neg]
   ·exact hb
   rintro⟨o2,JH⟩
   rw[hw.apart b o2 (axO _ JH)] at hb;cases hb
  refine hT.mono g ⟨oA,s1.rw++fr⟩ s ⟨R,?_,fun b o hb=>?_⟩ (h bY _ ⟨.refl _,fun b o hb=>?_,fun b o hb=>iI b o (hc.keep b o hb)⟩)
  ·refine hc.rw.trans ((List.Perm.append_right fr hR).trans ?_)
   rw[List.append_assoc,List.append_assoc]
   exact List.Perm.append_left _ List.perm_append_comm
  ·simp only[oA] at hb
   split at hb
   ·rename_i hx
    simp only[Option.some.injEq] at hb
    exact .inr (hb▸Classical.choose_spec hx)
   exact .inl hb
  rcases BL b o hb with h1|h1
  ·exact(hc.aF b o h1).imp (iI b o) id
  exact .inl (H2 b o h1)
theorem Fn.frame{f:FuncId}{s1 s:St}{R:Ending→St→Prop}{fr:Cells}(hf:Fn (CP P) P f args s1 R)(hB:∀x∈B,x∈fr)(hc:acV fr B ro s1 s):
 Fn (CP P) P f args s (fun en s'=>∃zn,R en zn∧acV fr B ro zn s'):=
 fun main T hT c cs k1 k2=>hf main _ (BW hT hB ro) c cs (fun v zn hv _ s' tB=>k1 v s' ⟨zn,hv,tB⟩) (fun ch zn hv _ s' tB=>k2 ch s' ⟨zn,hv,tB⟩) rfl s hc
def dQ(P:Program)(f:FuncId)(args:List Value)(ro:Nat→Option Obj)(own:Cells)(Φ:Value→Cells→Prop):Prop:=
 Fn (CP P) P f ⟨args⟩ ⟨ro,own⟩ (fun en s'=>∃v X,en= .returned v∧s'=⟨ro,X⟩∧Φ v X)
abbrev dv(P:Program)(f:FuncId)(args:List Value)(ro:Nat→Option Obj)(V:Value):Prop:=dQ P f args ro [] (fun v X=>v=V∧X=[])
theorem dQ.mono{f:FuncId}{args:List Value}{own:Cells}{Φ':Value→Cells→Prop}(h:dQ P f args ro own Φ)(hk:∀v X,Φ v X→Φ' v X):dQ P f args ro own Φ':=
 Fn.mono h fun _ _ ⟨v,X,h1,h2,h3⟩=>⟨v,X,h1,h2,hk v X h3⟩
theorem O2:Ext ⟨ro,[]⟩ ⟨ro,rw⟩:=fun _ _ h=>h.elim .inl (fun h=>by cases h)
theorem uD{aC:Nat→Option Obj}(h:Sub ro aC):Ext ⟨ro,[]⟩ ⟨aC,[]⟩:=fun b o hb=>hb.elim (fun hb=> .inl (h b o hb)) (fun hb=>by cases hb)
def a8(ro:Nat→Option Obj)(v:Value)(sz:Nat)(enc:α→List Value)(ps:List α):Prop:=
 ∃a b o cap,v= .slice a ps.length cap∧ps.length≤cap∧(∀k,k <ps.length→a=some ⟨b,o,none⟩)∧∀i p,ps[i]?=some p→cb ⟨ro,[]⟩ b (o+i*sz) sz (enc p)
theorem a8.nil(ro:Nat→Option Obj)(sz:Nat)(enc:α→List Value)(a:Option Addr)(cap:Nat):a8 ro (.slice a 0 cap) sz enc []:=⟨a,0,0,cap,rfl,Nat.zero_le _,fun k h=>absurd h (Nat.not_lt_zero k),fun i p hp=>by simp at hp⟩
theorem a8.up{aC:Nat→Option Obj}{v:Value}{enc:α→List Value}{ps:List α}(h:a8 ro v sz enc ps)(hs:Sub ro aC):a8 aC v sz enc ps:=by
 obtain⟨a,b,o,cap,h1,h4,h2,h3⟩:=h
 exact⟨a,b,o,cap,h1,h4,h2,fun i p hp=>(h3 i p hp).ext (uD hs)⟩
section rules
variable {P:Program} {C:Class} {fn:FuncId} {aA:Option Nat} {Q:Post} {s:St} {n:Nat} {env:Env} {D:List Deferred}
variable {ops:Array Oper} {i:Nat} {rest:List Nat} {dst:Option Tmp} {ty:TypeId} {pos:String} {dk:Array Edge} {g:Option (Nat×Bool)}
variable {T:TypeId} {d:TypeDesc} {sz bG:Nat} {z:List Value} {ag:Bool} {ro:Nat→Option Obj} {rw:Cells}
theorem ae.more{a:Act}(hC:∀main T,C main T→Closed P main T)(hl:s.le s')(h:ae C fn aA ops todo Q a s):ae C fn aA ops todo Q a s':=
 fun main T hT b k cs h1 h2 h3 h4=>(hC _ _ hT).mono _ _ _ hl (h main T hT b k cs h1 h2 h3 h4)
theorem amY{a:Act}(hC:∀main T,C main T→Closed P main T)(h:(∃w,aT s w)→ae C fn aA ops todo Q a s):ae C fn aA ops todo Q a s:=
 fun main T hT b k cs h1 h2 h3 h4=>x3 (hC _ _ hT) rfl fun hw=>h hw main T hT b k cs h1 h2 h3 h4
theorem asK{a:Act}{c:Code}(hC:∀main T,C main T→Closed P main T)(h:(∃w,aT s w)→Wp C fn aA c Q a s):Wp C fn aA c Q a s:=
 fun main T hT b k cs h1 h2 h3 h4=>x3 (hC _ _ hT) rfl fun hw=>h hw main T hT b k cs h1 h2 h3 h4
theorem ajH{f:FuncId}{R:Ending→St→Prop}(hC:∀main T,C main T→Closed P main T)(h:(∃w,aT s w)→Fn C P f args s R):Fn C P f args s R:=
 fun main T hT c cs h1 h2=>x3 (hC _ _ hT) rfl fun hw=>h hw main T hT c cs h1 h2
theorem ZE(hp:rw.Perm (X++s.rw))(hw:∃w,aT ⟨s.ro,rw⟩ w):∃aC,Sub s.ro aC∧(∀x∈X,aC x.1=some x.2)∧(⟨aC,s.rw⟩:St).le ⟨s.ro,rw⟩:=by
 classical
 obtain⟨w,hw⟩:=hw
 have AW:∀x,x∈X→x∈rw:=fun x hx=>hp.mem_iff.2 (List.mem_append_left _ hx)
 refine⟨fun b=>if hx:∃o,(b,o)∈X then some (Classical.choose hx) else s.ro b,fun b o hb=>?_,fun x hx=>?_,X,hp.trans List.perm_append_comm,fun b o hb=>?_⟩
 ·simp only
  rw[dif_neg]
  ·exact hb
  rintro⟨o2,JH⟩
  have:=hw.apart b o2 (AW _ JH)
  rw[show s.ro b=none from this] at hb;cases hb
 ·obtain⟨b,o⟩:=x
  have mj:∃o,(b,o)∈X:=⟨o,hx⟩
  simp only
  rw[dif_pos mj]
  have h1:=hw.rw b _ (AW _ (Classical.choose_spec mj))
  rw[hw.rw b o (AW _ hx)] at h1
  cases h1;rfl
 simp only at hb
 split at hb
 ·rename_i hx
  simp only[Option.some.injEq] at hb
  exact .inr (hb▸Classical.choose_spec hx)
 exact .inl hb
theorem aas{a:Act}{c:Code}(hC:∀main T,C main T→Closed P main T)(hp:rw'.Perm (X++rw))(h:∀aC,Sub ro aC→(∀x∈X,aC x.1=some x.2)→Wp C fn aA c Q a ⟨aC,rw⟩):Wp C fn aA c Q a ⟨ro,rw'⟩:=
 asK hC fun hw=>by
  obtain⟨aC,h1,h2,h3⟩:=ZE (s:=⟨ro,rw⟩) hp hw
  exact(h aC h1 h2).more hC h3
theorem Vh{a:Act}(hC:∀main T,C main T→Closed P main T)(hp:rw'.Perm (X++rw))(h:∀aC,Sub ro aC→(∀x∈X,aC x.1=some x.2)→ae C fn aA ops todo Q a ⟨aC,rw⟩):ae C fn aA ops todo Q a ⟨ro,rw'⟩:=
 amY hC fun hw=>by
  obtain⟨aC,h1,h2,h3⟩:=ZE (s:=⟨ro,rw⟩) hp hw
  exact(h aC h1 h2).more hC h3
theorem dQ.use{f:FuncId}{own fr:Cells}(hp:s.rw.Perm (own++fr))(hB:∀x∈B,x∈fr)(hf:∀aF,Sub s.ro aF→(∀x∈B,aF x.1=some x.2)→dQ P f vs aF own Φ):
 Fn (CP P) P f ⟨vs⟩ s (fun en s'=>∃v X,en= .returned v∧Φ v X∧(⟨s.ro,X++fr⟩:St).le s'):=by
 refine ajH fe fun⟨w,hw⟩=>?_
 classical
 have AW:∀x,x∈B→x∈s.rw:=fun x hx=>hp.mem_iff.2 (List.mem_append_right _ (hB x hx))
 let aF:Nat→Option Obj:=fun b=>if hx:∃o,(b,o)∈B then some (Classical.choose hx) else s.ro b
 have h1:Sub s.ro aF:=fun b o hb=>by
  simp only[aF]
  rw[dif_neg]
  ·exact hb
  rintro⟨o2,JH⟩
  rw[hw.apart b o2 (AW _ JH)] at hb;cases hb
 have h2:∀x∈B,aF x.1=some x.2:=fun⟨b,o⟩ hx=>by
  have mj:∃o,(b,o)∈B:=⟨o,hx⟩
  simp only[aF]
  rw[dif_pos mj]
  have h3:=hw.rw b _ (AW _ (Classical.choose_spec mj))
  rw[hw.rw b o (AW _ hx)] at h3
  cases h3;rfl
 refine Fn.mono (Fn.frame (fr:=fr) (B:=B) (ro:=s.ro) (s:=s) (hf aF h1 h2) hB ⟨hp,fun b o hb=>?_,Sub.refl _⟩) fun en s' EN=>?_
 ·simp only[aF] at hb
  split at hb
  ·rename_i hx
   simp only[Option.some.injEq] at hb
   exact .inr (hb▸Classical.choose_spec hx)
  exact .inl hb
 obtain⟨zn,⟨v,X,rfl,rfl,qB⟩,hc⟩:=EN
 exact⟨v,X,rfl,qB,[],by simpa using hc.rw,fun b o hb=> .inl (hc.keep b o hb)⟩
theorem afG(hC:∀main T,C main T→Closed P main T){f:FuncId}{own fr:Cells}(ho:ops[i]?=some ⟨dst,.call ⟨.value x,xs,at_⟩,ty,pos,dk,g⟩) (hw:ay ops n env g=true)
 (hv:bA n env x=some (.func (.func f) fi ca)) (ff:FF P f) (hx:vM n env xs=some vs) (su:fi++⟨vs⟩++ca=⟨ws⟩) (hp:s.rw.Perm (own++fr)) (hB:∀x∈B,x∈fr) (hf:∀aF,Sub s.ro aF→(∀x∈B,aF x.1=some x.2)→dQ P f ws aF own Φ)
 (h:∀v X,Φ v X→ae C fn aA ops rest Q (A n (upd dst v env) D) ⟨s.ro,X++fr⟩):ae C fn aA ops (i::rest) Q (A n env D) s:=
 uk hC ho hw hv ff hx su ((dQ.use hp hB hf).weaken hC) (fun v' s' hr=>by obtain⟨v,X,e,h1,h2⟩:=hr;cases e;exact(h _ X h1).more hC h2) (fun ch s' hr=>by obtain⟨_,_,e,_⟩:=hr;cases e) (fun s' hr=>by obtain⟨_,_,e,_⟩:=hr;cases e)
theorem dv.use{f:FuncId}{V:Value}{sz:St}(hez:Ext s sz)(hf:∀aF,(∀b o,s.has b o→aF b=some o)→dv P f vs aF V):Fn (CP P) P f ⟨vs⟩ sz (fun e s'=>e= .returned V∧sz.le s'):=by
 refine ajH fe fun⟨w,hw⟩=>?_
 refine Fn.mono (dQ.use (s:=sz) (own:=[]) (fr:=sz.rw) (B:=sz.rw) (.refl _) (fun _ h=>h) (fun aF h1 h2=>hf aF fun b o hb=>?_)) fun en s' EN=>?_
 ·rcases hez b o hb with h3|h3
  ·exact h1 b o h3
  exact h2 _ h3
 obtain⟨v,X,e,⟨h1,h2⟩,h3⟩:=EN
 subst h1 h2
 exact⟨e,h3⟩
theorem Rz(hC:∀main T,C main T→Closed P main T){f:FuncId}{V:Value}{s0:St}(ho:ops[i]?=some ⟨dst,.call ⟨.value x,xs,at_⟩,ty,pos,dk,g⟩) (hw:ay ops n env g=true)
 (hv:bA n env x=some (.func (.func f) fi ca)) (ff:FF P f) (hx:vM n env xs=some vs) (su:fi++⟨vs⟩++ca=⟨ws⟩) (hez:Ext s0 s) (hf:∀aF,(∀b o,s0.has b o→aF b=some o)→dv P f ws aF V) (h:ae C fn aA ops rest Q (A n (upd dst V env) D) s):ae C fn aA ops (i::rest) Q (A n env D) s:=
 uk hC ho hw hv ff hx su ((dv.use hez hf).weaken hC) (fun v' s' hr=>by obtain⟨e,h1⟩:=hr;cases e;exact h.more hC h1) (fun ch s' hr=>by cases hr.1) (fun s' hr=>by cases hr.1)
theorem GY{aF:Nat→Option Obj}(h:∀b o,(⟨ro,rw⟩:St).has b o→aF b=some o):Sub ro aF:=fun b o hb=>h b o (.inl hb)
theorem aw.jC{v:Value}{T:TypeId}{enc:α→List Value}{ps:List α}{L:Cells}{aF:Nat→Option Obj}(h:aw v sz T enc ps L)(hL:∀x∈L,aF x.1=some x.2):a8 aF v sz enc ps:=by
 obtain⟨a,b,o,cap,h1,h2,h3⟩:=h.sl (s:=⟨aF,[]⟩) fun x hx=> .inl (hL x hx)
 refine⟨a,b,o,cap,h1,?_,h2,h3⟩
 rcases h with ⟨_,g2,_⟩| ⟨b',l,aUj,g1,_,_,g4,_⟩
 ·subst g2;exact Nat.zero_le _
 rw[g1] at h1;cases h1;exact g4
end rules
section rules
variable {P:Program} {C:Class} {fn:FuncId} {aA:Option Nat} {Q:Post} {s:St} {n:Nat} {env:Env} {D:List Deferred}
variable {ops:Array Oper} {i:Nat} {rest:List Nat} {dst:Option Tmp} {ty:TypeId} {pos:String} {dk:Array Edge} {g:Option (Nat×Bool)}
variable {T:TypeId} {d:TypeDesc} {sz bG:Nat} {z:List Value} {ag:Bool}
theorem Vk(hC:∀main T,C main T→Closed P main T)(ho:ops[i]?=some ⟨dst,.range T x,ty,pos,dk,g⟩) (hw:ay ops n env g=true) (tf:TF P T .string sz bG z ag) (hx:bA n env x=some (.string b))
 (h:∀r,¬s.knows r→ae C fn aA ops rest Q (A n (upd dst (.pointer (some ⟨r,0,none⟩)) env) D) ⟨s.ro,(r,.stringIter b 0)::s.rw⟩):ae C fn aA ops (i::rest) Q (A n env D) s:=by
 refine bW hC ho hw (by simp) ?_
 simp only[execOp,Instr.range,aa,bk tf,aG hx,af,oK]
 intro r hr
 have:=h r hr
 rw[←ba] at this
 exact this
theorem abg(hC:∀main T,C main T→Closed P main T){r:Nat}{L R:Cells}(ho:ops[i]?=some ⟨dst,.next x true,ty,pos,dk,g⟩) (hw:ay ops n env g=true) (hx:bA n env x=some (.pointer (some ⟨r,0,none⟩))) (hs:s.rw=L++(r,.stringIter b p)::R) (hp:p <b.size)
 (h:ae C fn aA ops rest Q (A n (upd dst (.tuple ⟨[.bool true,.int .i64 p,.int .i32 (Utf8.decode b p).1]⟩) env) D) ⟨s.ro,L++(r,.stringIter b (p+(Utf8.decode b p).2))::R⟩):ae C fn aA ops (i::rest) Q (A n env D) s:=by
 refine bW hC ho hw (by simp) ?_
 simp only[execOp,Instr.next,aa,aG hx]
 refine cO (o:= .stringIter b p) (.inr (by rw[hs];simp)) rfl rfl ?_
 simp only[aa,hp,if_true]
 refine eJ (o:= .stringIter b (p+(Utf8.decode b p).2)) rfl hs rfl ?_
 rw[←ba] at h
 exact h
theorem abh(hC:∀main T,C main T→Closed P main T){r:Nat}{L R:Cells}(ho:ops[i]?=some ⟨dst,.next x true,ty,pos,dk,g⟩) (hw:ay ops n env g=true) (hx:bA n env x=some (.pointer (some ⟨r,0,none⟩))) (hs:s.rw=L++(r,.stringIter b p)::R) (hp:¬p <b.size)
 (h:ae C fn aA ops rest Q (A n (upd dst (.tuple ⟨[.bool false]⟩) env) D) s):ae C fn aA ops (i::rest) Q (A n env D) s:=by
 refine bW hC ho hw (by simp) ?_
 simp only[execOp,Instr.next,aa,aG hx]
 refine cO (o:= .stringIter b p) (.inr (by rw[hs];simp)) rfl rfl ?_
 simp only[aa,hp,if_false]
 rw[←ba] at h
 exact h
end rules
end Go.L
