/- Part 5 of the proof: a program logic, contracts, a theorem on goroutines. -/
import Derived.Test.YtjnblekiagbmkaaGreatDoorL4
import Derived.Conc.CrowdStepC
set_option maxRecDepth 100000
set_option linter.all false
namespace Go.L
open Go Go.Conc
open Go.ConcR (KK wgBlock WgAt stA smA rd wr)
variable {ty:TypeId} {P:Program} {z:Value} {W lV off pc:Nat} {s s':St} {b:Bool} {α:Type}
section
variable {ι:Type} {E:dV ι} {L:Nat→Option Obj} {K:Nat→St} {gs:Array Goroutine} {w:World} {t:Trace} {D:List (ak ι)} {d0:Nat} {main:Goroutine} {sl:Option (Nat×Nat)}
 {ic n:Nat} {g:Goroutine}
def GZ(E:dV ι)(pc:Nat)(K:Nat→St)(w:World)(t:Trace):Prop:=
 (∃sn tm,w.heap[E.Ch]?=some (.chan 0 #[] true sn sn tm))∧¬(K 0).knows E.Ch∧t.act? pc=some (.close E.Ch)∧t.heard pc∧(∀a,NoRelease a t)∧w.os=E.os∧w.output=E.out
theorem Ge(E:dV ι)(pc:Nat):We (GZ E pc) where
 grow:=fun K w t u h hu=>⟨h.1,h.2.1,by rw[act?_old (lt_of_act? h.2.2.1)];exact h.2.2.1,(heard_old (lt_of_act? h.2.2.1)).2 h.2.2.2.1,fun a=>(h.2.2.2.2.1 a).app fun op aw=>hu op aw a,h.2.2.2.2.2⟩
 drawn:=fun K w t d h=>h
 le:=fun K w t s h hl=>⟨h.1,by rw[aB];exact fun hk=>h.2.1 (hl.knows hk),h.2.2⟩
 own:=fun K w t s' w' es u h ht hu=>by
  obtain⟨⟨sn,tm,hc⟩,hk,ha,hh,hn,Ot⟩:=h
  have cz:=lt_size hc
  refine⟨⟨sn,tm,by rw[ht.frame _ cz fun ho=>hk (.inr ho)];exact hc⟩,?_,by rw[act?_old (lt_of_act? ha)];exact ha,(heard_old (lt_of_act? ha)).2 hh,fun a=>(hn a).app fun op aw=>hu op aw a,ht.os.trans Ot.1,ht.output.trans Ot.2⟩
  rw[aB]
  rintro(h'|h')
  ·rcases ht.JO _ h' with h1|h1|h1
   ·omega
   ·exact hk (.inl h1)
   ·exact hk (.inr h1)
  ·rcases ht.own _ h' with h1|h1
   ·omega
   ·exact hk (.inr h1)
theorem WM{r:ak ι}(h1:r.cnt=0)(h4:r.c4=0)(h3:r.c3=0)(h2:r.c2=0)(hc:r≠ .closer):∃q d c,r= .leave q d c:=by
 cases r with
 |leave q d c=>exact⟨q,d,c,rfl⟩
 |closer=>exact absurd rfl hc
 |st k n=>cases k<;>simp[ak.cnt,ak.c4,ak.c3,ak.c2] at h1 h4 h3 h2
 |_=>exact absurd h1 (by simp[ak.cnt])
theorem AcqAll.known(hA:AcqAll E t D ic)(hn:NoRelease (stA E.Wg) t){u:Trace}(hpc:t.size≤pc){y:MemOp}(hy:(t++u)[pc]?=some y) (hyg:y.g=ic+1) {i:Nat} {r:ak ι} (hi:D[i]?=some r) (hc:r.cur=true)
 {p:Nat} (hp:t.g? p=some (i+1)) (hct:t.counts p):HappensBefore (t++u) p pc:=by
 obtain⟨q,h1,h2,h3,h4⟩:=hA
 obtain⟨x,hx,hxq⟩:=h4 i r hi hc
 have hq:=lt_of_act? h1
 have hqg:=h2
 obtain⟨oq,hoq,hgq⟩:=Option.map_eq_some_iff.1 h2
 have Yn:HappensBefore t x q:= .single (.inr ⟨.marked hxq (.inr hx.act) h1 (fun k _ _=>hn k),hx.heard,h3⟩)
 have last:HappensBefore (t++u) q pc:=hb_po (by omega) (by rw[getElem?_append_old hq];exact hoq) hy (hgq.trans hyg.symm)
 have hle:p≤x:=Nat.le_of_not_lt fun cz=>hx.after p cz hp hct
 rcases Nat.lt_or_ge p x with cz|OS
 ·exact((hb_app u (.trans (.single (.inl ⟨cz,_,hp,hx.g⟩)) Yn)).trans last)
 ·obtain rfl:p=x:=by omega
  exact(hb_app u Yn).trans last
def ab5(qc:Nat):ak ι→Nat
 | .leave q _ _=>q
 |_=>qc
theorem Inv.close(h:Inv E L K gs w t D 0 (some (ic,.run .leaf,n)) main d0){main':Goroutine}(hm:∀(a a':Goroutine) (w':World),mayWake E.P a=true→(a'.status= .running∨a'.status= .finished)→(∃sn tm,w'.heap[E.Ch]?=some (.chan 0 #[] true sn sn tm))→woken E.P a a' w' main=main')
 (hg:gs[ic+1]?=some g):
 ∃k9 w' u q,runT E.P (crowd gs w sl) (ic+1)=(.next (crowd k9 w' sl),u)∧Lv E.P (jk (t.size+1)) L (fun j=>if j=0 then K 0 else ⟨fun _=>none,[]⟩) k9 w' (t++u) q∧k9[0]?=some main'∧Deaf (t++u) 0=d0∧
  GZ E (t.size+1) (fun j=>if j=0 then K 0 else ⟨fun _=>none,[]⟩) w' (t++u)∧kI D=[]:=by
 obtain⟨hic,FE,yE,⟨gc,D8,pJ⟩,SC⟩:=h.sy.Dy
 obtain rfl:gc=g:=by rw[hg] at D8;exact(Option.some.inj D8).symm
 obtain⟨st,sm,ha,mV⟩:=h.sy.cells
 obtain⟨e1,e4,e3,e2,rfl,rfl⟩:=mV.run rfl trivial
 obtain⟨_,hs,hmw,g',bM,q,hq⟩:=pJ
 obtain⟨sn,rc,tm,hc⟩:=h.sy.chan
 have asB:=h.sy.bal _ _ _ hc
 subst asB
 have hA:=SC ⟨_,rfl⟩
 have cz:=(List.getElem?_eq_some_iff.1 hic).1
 have R8:∀k r,D[k]?=some r→k≠ic→∃q d c,r= .leave q d c:=fun k r hk ee=>by
  refine WM ?_ ?_ ?_ ?_ fun e=>ee (FE k (e▸hk))
  ·have:=tT ak.cnt hk;omega
  ·have:=tT ak.c4 hk;omega
  ·have:=tT ak.c3 hk;omega
  ·have:=tT ak.c2 hk;omega
 have gN:=bM w sn sn tm hc
 have bN:=runT_crowd_go (P:=E.P) (sl:=sl) (i:=ic+1) hg (by simpa using gN)
 have q1:MemOp.ofEvents (ic+1) gc.frame.fn gc.frame.place #[⟨.obj E.Ch,false,true⟩,⟨.obj E.Ch,true,true⟩]= #[{g:=ic+1,fn:=gc.frame.fn,pos:=gc.frame.place,act:= .access ⟨.obj E.Ch,false,true⟩},{g:=ic+1,fn:=gc.frame.fn,pos:=gc.frame.place,act:= .close E.Ch}]:=by rw[ofEvents_eq];simp[MemAct.ofEvent]
 rw[q1] at bN
 generalize hu:(#[{g:=ic+1,fn:=gc.frame.fn,pos:=gc.frame.place,act:= .access ⟨.obj E.Ch,false,true⟩},{g:=ic+1,fn:=gc.frame.fn,pos:=gc.frame.place,act:= .close E.Ch}]:Trace)=u at bN
 have I2:∀op∈u,op.g=ic+1∧(op.act= .access ⟨.obj E.Ch,false,true⟩∨op.act= .close E.Ch):=by rw[←hu];intro op aw;simp at aw;rcases aw with rfl|rfl<;>simp
 have Vh:∀op∈u,∀x,op.act.touch?=some x→x=⟨.obj E.Ch,false,.atomic⟩:=fun op aw x hx=>by
  rcases(I2 op aw).2 with e|e<;>rw[e] at hx
  ·simp only[MemAct.touch?,if_true,Option.some.injEq] at hx;exact hx.symm
  ·cases hx
 have OI:∀op∈u,∀m,op.act≠ .mark m:=fun op aw m=>by rcases(I2 op aw).2 with e|e<;>rw[e]<;>simp
 have aDW:E.Ch <w.heap.size:=lt_size hc
 have sS:(w.heap.setIfInBounds E.Ch (.chan 0 #[] true sn sn tm))[E.Ch]?=some (.chan 0 #[] true sn sn tm):=by simp[aDW]
 have hpc:(t++u)[t.size+1]?=some {g:=ic+1,fn:=gc.frame.fn,pos:=gc.frame.place,act:= .close E.Ch}:=by rw[←hu];simp
 have hle:∀j,((fun j=>if j=0 then K 0 else ⟨fun _=>none,[]⟩) j:St).le (K j):=fun j=>by
  by_cases e:j=0
  ·subst e;exact St.le_refl _
  ·simp only[if_neg e];exact⟨(K j).rw,by simp,fun b o hb=>(by cases hb)⟩
 have aPw:∀x:Goroutine,(x.status= .running∨x.status= .finished)→woken E.P gc g' {w with heap:=w.heap.setIfInBounds E.Ch (.chan 0 #[] true sn sn tm)} x=x:=fun x hx=>by
  unfold Go.Conc.woken
  split
  ·exact again_running _ hx
  ·rfl
 have kL:∀i r,D[i]?=some r→i≠ic→jk (t.size+1) (t++u) (i+1):=fun i r hi ee=>by
  obtain⟨x,hx,fu⟩:=h.base.ok i r hi
  obtain⟨qq,d,c,rfl⟩:=R8 i r hi ee
  refine⟨by rw[←hu];simp,?_⟩
  cases c with
  |false=>exact .inl ((fu.2.2.2.2 rfl).other fun op aw=>by rw[(I2 op aw).1];omega)
  |true=>
   refine .inr fun p hp hct=>?_
   obtain⟨op,ho,hgo⟩:=Option.map_eq_some_iff.1 hp
   rcases getElem?_append_cases ho with ⟨Sa,_⟩| ⟨_,iX⟩
   ·exact hA.known (h.sy.norel _) (Nat.le_succ _) hpc rfl hi rfl (by rw[←g?_old (u:=u) Sa];exact hp) ((counts_old Sa).1 hct)
   ·rw[(I2 op iX).1] at hgo;omega
 refine⟨_,_,u,D.map (ab5 q),bN,⟨?_,by simp[h.base.size],fun k x hk=>?_,fun i b hi hk=>?_,fun op aw=>?_⟩,?_,?_,⟨⟨sn,tm,sS⟩,h.sy.kC 0,?_,?_,fun a=>(h.sy.norel a).app fun op aw=>OI op aw _,h.base.same.1,h.base.same.2⟩,?_⟩
 ·refine(h.base.fit.beside E.Ch (ic+1) h.sy.kC h.sy.lC aDW (by simp) (fun b hb _=>by simp[Ne.symm hb]) (fun op aw=>(I2 op aw).1) fun op aw x hx=>?_).le hle
  obtain rfl:=Vh op aw x hx
  refine⟨rfl,fun sd p a uD hc=>h.sy.plain _ (.inr ⟨ic,_,rfl,hic,rfl⟩) p a uD (.inr (by rw[hc.1];rfl)) ?_⟩
  rcases hc.2.2.2 with h3|h3|h3
  ·exact h3
  ·cases h3
  ·cases h3.2.2
 ·rw[List.getElem?_map] at hk
  obtain⟨r,hr,rfl⟩:=Option.map_eq_some_iff.1 hk
  by_cases ee:k=ic
  ·subst ee
   rw[hic] at hr
   cases hr
   refine⟨g',0,by simp[h.base.size,cz],hq,by rw[gv _ _ _ OI];exact yE,by rw[←hu];simp,.inr fun p hp hct=>?_⟩
   obtain⟨op,ho,hgo⟩:=Option.map_eq_some_iff.1 hp
   rcases Nat.lt_or_ge p (t.size+1) with Sa|OS
   ·exact hb_po Sa ho hpc hgo
   ·have hpe:p=t.size+1:=by
     have:=lt_size ho
     rw[←hu] at this
     simp at this
     omega
    subst hpe
    obtain⟨y,hy,_⟩:=hct
    obtain⟨o',D5,lO⟩:=touch_of hy
    rw[hpc] at D5;cases D5
    cases lO
  ·obtain⟨x,hx,fu⟩:=h.base.ok k r hr
   have bO:=kL k r hr ee
   obtain⟨qq,d,c,rfl⟩:=R8 k r hr ee
   exact⟨x,d,by rw[gz (by omega) hx,aPw x fu.2.1.status],fu.2.1,by rw[gv _ _ _ OI];exact fu.2.2.1,bO⟩
 ·simp only[if_neg hi] at hk
  rcases hk with hk| ⟨o,ho⟩
  ·exact hk rfl
  ·cases ho
 ·rw[Array.size_setIfInBounds,Array.size_map]
  rcases Array.mem_append.1 aw with h'|h'
  ·exact h.base.ops op h'
  ·rw[(I2 op h').1,h.base.size];omega
 ·rw[gz (by omega) h.main,hm _ _ _ hmw hq.status ⟨sn,tm,sS⟩]
 ·rw[gv _ _ _ OI];exact h.deaf
 ·rw[act?_of hpc]
 ·refine⟨ic+1,by simp[Trace.g?,hpc],?_⟩
  have e2:t++u=(t++ #[({g:=ic+1,fn:=gc.frame.fn,pos:=gc.frame.place,act:= .access ⟨.obj E.Ch,false,true⟩}:MemOp)])++ #[({g:=ic+1,fn:=gc.frame.fn,pos:=gc.frame.place,act:= .close E.Ch}:MemOp)]:=by rw[←hu,Array.append_assoc];rfl
  have e3:=gv t (ic+1) #[({g:=ic+1,fn:=gc.frame.fn,pos:=gc.frame.place,act:= .access ⟨.obj E.Ch,false,true⟩}:MemOp)] (by intro op aw m;simp only[List.mem_toArray,List.mem_singleton] at aw;subst aw;simp)
  rw[e2,deaf_old (by simp)]
  unfold Deaf at e3 yE
  rw[Array.size_append] at e3
  exact e3.trans yE
 ·unfold kI
  rw[List.filterMap_eq_nil_iff]
  intro r hr
  obtain⟨k,hk⟩:=List.getElem?_of_mem hr
  by_cases ee:k=ic
  ·subst ee;rw[hic] at hk;cases hk;rfl
  ·obtain⟨qq,d,c,rfl⟩:=R8 k r hk ee;rfl
end
section
variable {ι:Type} {E:dV ι} {L:Nat→Option Obj} {K:Nat→St} {gs:Array Goroutine} {w w':World} {t u:Trace} {D:List (ak ι)} {pend d0:Nat} {cl:y3} {main:Goroutine} {sl:Option (Nat×Nat)}
 {i:Nat} {g g':Goroutine} {es:Array Event}
def PLt(mx:Nat):List (ak ι)×y3→List (ak ι)×y3→Prop:=Prod.Lex (One uk) (InvImage DE (nn mx))
theorem PLt.wf(mx:Nat):WellFounded (PLt (ι:=ι) mx):=(Prod.lex ⟨_,One.wf uk.wf⟩ ⟨_,InvImage.wf (nn mx) DE.wf⟩).wf
theorem Inv.other(h:Inv E L K gs w t D pend cl main d0)(hm:gR E main)(hg:gs[i+1]?=some g) (hs:g.status= .running) (FP:D[i]?≠some (.back .leaf)) (CC:∀n,cl≠some (i,.run .leaf,n))
 (hw:(∃o,D[i]?=some (.work o .leaf))→main.status= .running):
 ∃K' k9 w' u D' cl',runT E.P (crowd gs w sl) (i+1)=(.next (crowd k9 w' sl),u)∧Inv E L K' k9 w' (t++u) D' pend cl' main d0∧K' 0=K 0∧kI D'=kI D∧cl'.isSome=cl.isSome∧PLt E.max (D',cl') (D,cl)∧∀o,ak.gM o∈D'→ak.gM o∈D∨main.status= .running:=by
 have cz:i <D.length:=by have:=lt_size hg;have:=h.base.size;omega
 have hD:D[i]?=some D[i]:=List.getElem?_eq_getElem cz
 have fin:qx E L K D pend cl main d0 (crowd gs w sl) sl t (i+1)→
  ∃K' k9 w' u D' cl',runT E.P (crowd gs w sl) (i+1)=(.next (crowd k9 w' sl),u)∧Inv E L K' k9 w' (t++u) D' pend cl' main d0∧K' 0=K 0∧kI D'=kI D∧cl'.isSome=cl.isSome∧PLt E.max (D',cl') (D,cl)∧∀o,ak.gM o∈D'→ak.gM o∈D∨main.status= .running:=by
  rintro⟨K',k9,w',u,D',cl',h1,h2,h3,h4,h5,h6,h7,h8⟩
  refine⟨K',k9,w',u,D',cl',h1,h2,h3,h4,?_,Prod.Lex.left _ _ h5,h8⟩
  cases hc:cl with
  |none=>rw[h6 hc]
  |some x=>have:=h7 (by rw[hc];simp);cases cl'<;>simp_all
 obtain⟨x,hx,fu⟩:=h.base.ok i _ hD
 obtain rfl:x=g:=by rw[hg] at hx;exact(Option.some.inj hx).symm
 generalize hr:D[i]=r at hD fu
 match r,hD,fu with
 | .leave q d c,hD,fu=>exact fin (h.leave hm hD hg hs)
 | .work o (.node f),hD,fu=>exact fin (h.work hm hD hg)
 | .work o .leaf,hD,fu=>exact fin (h.WE (hw ⟨o,hD⟩) hD hg)
 | .gM o,hD,⟨_,uR,qh,v,zs,X,Y,e,_⟩=>rw[e] at hs;cases hs
 | .back (.node f),hD,fu=>exact fin (h.back hm hD hg)
 | .back .leaf,hD,fu=>exact absurd hD FP
 | .st k (n+1),hD,fu=>exact fin (h.aoN hm hD hg)
 | .st .r0 0,hD,fu=>exact fin (h.r0 hm hD hg)
 | .st .k1 0,hD,fu=>exact fin (h.k1 hm hD hg)
 | .st .d1 0,hD,fu=>exact fin (h.d1 hm hD hg)
 | .st .d2 0,hD,fu=>exact fin (h.d2 hm hD hg)
 | .st .d3 0,hD,fu=>exact fin (h.d3 hm hD hg)
 | .st .d4 0,hD,fu=>exact fin (h.d4 hm hD hg)
 | .closer,hD,fu=>
  have iY:=h.sy.Dy
  match cl,h,iY,CC with
  |none,h,iY,_=>exact(iY _ (List.mem_of_getElem? hD)).elim
  |some (ic,c,n),h,⟨_,hu,_,_,_⟩,CC=>
   have e:=hu i hD
   subst e
   obtain⟨K',k9,w',u,c',n',h1,h2,h3,h4⟩:=h.closer (sl:=sl) hm hg hs fun e=>CC n (by rw[e])
   exact⟨K',k9,w',u,D,_,h1,h2,h3,rfl,rfl,Prod.Lex.right _ h4,fun _ h=> .inl h⟩
theorem Inv.awake(h:Inv E L K gs w t D pend cl main d0)(hm:gR E main):∀x∈gs,Go.Conc.awake x:=by
 intro x hx
 obtain⟨j,hj,rfl⟩:=Array.mem_iff_getElem.1 hx
 have hj':gs[j]?=some gs[j]:=Array.getElem?_eq_getElem hj
 intro k
 cases j with
 |zero=>
  rw[h.main] at hj'
  rw[←Option.some.inj hj']
  rcases hm with e| ⟨m,z,rfl⟩
  ·rw[e];simp
  ·simp[parked]
 |succ j=>
  have cz:j <D.length:=by have:=h.base.size;omega
  have hD:D[j]?=some D[j]:=List.getElem?_eq_getElem cz
  obtain⟨y,hy,fu⟩:=h.base.ok j _ hD
  rw[hj'] at hy
  rw[Option.some.inj hy]
  by_cases hb:∃o,D[j]= .gM o
  ·obtain⟨o,e⟩:=hb
   rw[e] at fu
   obtain⟨_,uR,qh,v,zs,X,Y,rfl,_⟩:=fu
   simp[parked]
  ·by_cases hc:D[j]= .closer
   ·have iY:=h.sy.Dy
    match cl,iY with
    |none,iY=>
     have:=iY D[j] (List.mem_of_getElem? hD)
     rw[hc] at this
     exact this.elim
    |some (ic,c,n),⟨_,h2,_,⟨gc,D8,pJ⟩,_⟩=>
     have e:=h2 j (by rw[hD,hc])
     subst e
     rw[hj',hy] at D8
     obtain rfl:=Option.some.inj D8
     by_cases ad9:c= .blk
     ·subst ad9
      obtain⟨_,uR,amS,e⟩:=pJ
      rw[e];simp
     ·rw[CK.uj pJ ad9];simp
   ·rcases fu.running (fun o e=>hb ⟨o,e⟩) hc with e|e<;>rw[e]<;>simp
theorem Inv.le0(h:Inv E L K gs w t D pend cl main d0)(hl:s.le (K 0)):Inv E L (fW K 0 s) gs w t D pend cl main d0:=by
 have hle:∀j,(fW K 0 s j).le (K j):=fun j=>by
  by_cases e:j=0
  ·subst e;rw[aB];exact hl
  ·rw[aD _ _ e];exact St.le_refl _
 refine⟨⟨h.base.fit.le hle,h.base.size,fun k r hk=>?_,fun k hk b hb=>h.base.far k hk b ((hle k).knows hb),h.base.ops,h.base.same⟩,
  ⟨fun j hj=>h.sy.kW j ((hle j).knows hj),fun j hj=>h.sy.kC j ((hle j).knows hj),h.sy.lW,h.sy.lC,h.sy.ne,h.sy.norel,h.sy.plain,h.sy.said,h.sy.cells,h.sy.Bv,h.sy.chan,h.sy.bal,?_⟩,h.main,h.deaf⟩
 ·rw[aD _ _ (by omega)];exact h.base.ok k r hk
 ·have iY:=h.sy.Dy
  match cl,iY with
  |none,iY=>exact iY
  |some (ic,c,n),⟨h1,h2,h3,⟨gc,D8,pJ⟩,h5⟩=>exact⟨h1,h2,h3,⟨gc,D8,by rw[aD _ _ (by omega)];exact pJ⟩,h5⟩
def TC(E:dV ι)(L:Nat→Option Obj)(Q:Machine→Outcome→World→Trace→Prop)(pend:Nat)(b:Bool)(os:List ι)(d0:Nat)(g:Goroutine)(s:St):Prop:=
 ∀K gs w t D cl sl,cl.isSome=b→Inv E L K gs w t D pend cl g d0→kI D=os→s.le (K 0)→Ends E.P Q (crowd gs w sl) t
theorem wK{Q:Machine→Outcome→World→Trace→Prop}{os:List ι}(hs:g.status= .running)
 (h:∀K gs w t D cl sl m,cl.isSome=b→Inv E L K gs w t D pend cl g d0→kI D=os→K 0=s→stepT E.P m=runT E.P (crowd gs w sl) 0→Ends E.P Q m t)
 (iO:b=true→pend=0∧d0=0∧(os=[]→∀pc,TL E.P (jk pc) L (GZ E pc) Q g s)):TC E L Q pend b os d0 g s:=by
 intro K gs w t D cl sl hb hI ho hle
 have key:∀μ:List (ak ι)×y3,∀K gs w t sl,μ.2.isSome=b→Inv E L K gs w t μ.1 pend μ.2 g d0→kI μ.1=os→K 0=s→Ends E.P Q (crowd gs w sl) t:=by
  intro μ
  induction μ using (PLt.wf E.max).induction with
  |_ μ ih=>
   obtain⟨D,cl⟩:=μ
   intro K gs w t sl hb hI ho hK
   simp only at hb hI ho
   obtain⟨i,fo,d,P3,cW,FG,bM⟩:=crowd_pick (P:=E.P) (gs:=gs) (w:=w) (sl:=sl) (hI.awake (.inl hs)) ⟨0,g,hI.main,hs⟩
   have yF:=hI.at d
   cases i with
   |zero=>exact h K gs _ t D cl P3 _ hb yF ho hK bM
   |succ i=>
    by_cases X4:D[i]?=some (.back .leaf)
    ·obtain⟨n,h1,h2,h3⟩:=hI.norm X4
     exact ih (_,cl) (Prod.Lex.left _ _ h3) _ gs w t sl hb h1 (h2.trans ho) (by rw[aD _ _ (by omega)];exact hK)
    ·by_cases hc:∃n,cl=some (i,.run .leaf,n)
     ·obtain⟨n,e⟩:=hc
      subst e
      obtain⟨hp,hd,hT⟩:=iO (by rw[←hb];rfl)
      subst hp
      obtain⟨k9,w',u,q,hr,hL,h0,hdd,hG,tt⟩:=yF.close (sl:=P3) (main':=g) (fun a a' w' _ _ _=>by
       unfold Go.Conc.woken
       split
       ·exact again_running _ (.inl hs)
       ·rfl) cW
      exact Ends.next (bM.trans hr) (hT (ho.symm.trans tt) (t.size+1) _ k9 w' _ q P3 hL h0 (by simp only[if_true];rw[hK];exact St.le_refl _) (by rw[hdd];exact hd) hG)
     ·obtain⟨K',k9,w',u,D',cl',hr,Ld,mL,G6,gF,cz,_⟩:=yF.other (sl:=P3) (.inl hs) cW FG X4 (fun n e=>hc ⟨n,e⟩) (fun _=>hs)
      exact Ends.next (bM.trans hr) (ih (D',cl') cz K' k9 w' _ P3 (gF.trans hb) Ld (G6.trans ho) (mL.trans hK))
 exact key (D,cl) _ gs w t sl hb (hI.le0 hle) ho (aB _ _ _)
end
section
variable {ι:Type} {E:dV ι} {L:Nat→Option Obj} {Q:Machine→Outcome→World→Trace→Prop} {g:Goroutine} {s:St}
theorem TV(SF:L E.Ch=none){x:Goroutine}(hx:x.status= .running)(bM:∀w,aP s w→stepG E.P true x w= .comm g #[rcase E.Ch z] true (.recv true) w #[])
 (mY:∀w,aP s w→(∀b o,L b=some o→w.heap[b]?=some o)→aP s' w) (yX:∀b,s'.knows b→L b≠none∨s.knows b)
 (hT:TL E.P eC (fun _=>none) (Calm E.os E.out) Q (Conc.served g (.tuple #[z,.bool false])) s'):TL E.P (jk pc) L (GZ E pc) Q x s:=by
 refine JG (Pa pc) (Ge E pc) hx fun K gs w t q sl m hL h0 hK hd hG hm _=>?_
 subst hK
 obtain⟨⟨sn,tm,hc⟩,hkC,aki,ar2,aAc,acZ⟩:=hG
 have I4:partners (gs.setIfInBounds 0 ph) E.Ch true=[]:=partners_nil fun j y hy=>by
  rcases getElem?_stand gs _ _ _ hy with ⟨_,rfl⟩| ⟨hj,XF⟩
  ·exact offersAt_ph _ _
  ·cases j with
   |zero=>exact absurd rfl hj
   |succ j=>
    have cz:j <q.length:=by have:=lt_size XF;have:=hL.size;omega
    obtain⟨y',d,hy2,hq,_⟩:=hL.ok j _ (List.getElem?_eq_getElem cz)
    rw[XF] at hy2
    rw[Option.some.inj hy2]
    exact qS hq.status _ _
 have bN:=crowd_recv_closed (sl:=sl) h0 (by simpa using bM w (hL.fit.jQ 0)) hc I4
 have e0:MemOp.ofEvents 0 x.frame.fn x.frame.place #[]= #[]:=rfl
 rw[e0,Array.empty_append] at bN
 generalize hu:(#[{g:=0,fn:=g.frame.fn,pos:=g.frame.place,act:= .recvClosed E.Ch}]:Trace)=u at bN
 have I2:∀op∈u,op.g=0∧op.act= .recvClosed E.Ch:=by rw[←hu];intro op aw;simp at aw;subst aw;exact⟨rfl,rfl⟩
 have Vh:∀op∈u,op.act.touch?=none:=fun op aw=>by rw[(I2 op aw).2];rfl
 have OI:∀op∈u,∀m,op.act≠ .mark m:=fun op aw m=>by rw[(I2 op aw).2];simp
 have hr:(t++u)[t.size]?=some {g:=0,fn:=g.frame.fn,pos:=g.frame.place,act:= .recvClosed E.Ch}:=by rw[←hu];simp
 have amH:=lt_of_act? aki
 have Yn:HappensBefore (t++u) pc t.size:= .single (.inr ⟨.closed (c:=E.Ch) (by rw[act?_old amH];exact aki) (by rw[act?_of hr]),(heard_old amH).2 ar2,⟨0,by simp[Trace.g?,hr],by rw[deaf_old (Nat.le_refl _)];exact hd⟩⟩)
 have cY:∀i n,q[i]?=some n→eC (t++u) (i+1):=fun i n hi=>by
  obtain⟨y,d,hy,hq,hdd,hk⟩:=hL.ok i n hi
  rcases hk.2 with hk|hk
  ·exact hk.quiet Vh
  ·intro p hp hct
   obtain⟨op,ho,hgo⟩:=Option.map_eq_some_iff.1 hp
   rcases getElem?_append_cases ho with ⟨Sa,_⟩| ⟨_,iX⟩
   ·exact⟨t.size,by simp[Trace.g?,hr],(hb_app u (hk p (by rw[←g?_old (u:=u) Sa];exact hp) ((counts_old Sa).1 hct))).trans Yn⟩
   ·rw[(I2 op iX).1] at hgo;omega
 have pg:=hL.fit.quiet (u:=u) (w':=w) E.Ch (fun j=>by
  by_cases e:j=0
  ·subst e;exact hkC
  ·exact hL.none j _ e) SF (Nat.le_refl _) (fun _ _ _=>rfl) Vh
 refine Ends.next (hm.trans bN) (hT (fW K 0 s') _ w _ q sl ⟨?_,by simp[hL.size],fun i n hi=>?_,fun i b hi hk=>?_,fun op aw=>?_⟩ ?_ (by rw[aB];exact St.le_refl _) (by rw[gv _ _ _ OI];exact hd) ⟨fun a=>(aAc a).app fun op aw=>OI op aw _,acZ⟩)
 ·refine pg.alone (i:=0) (fun j hj b=>hL.none j b hj) s' (mY w (hL.fit.jQ 0) hL.fit.Dd) yX fun b hb p y hy Qb hyb=>?_
  obtain⟨op,ho,hyo⟩:=touch_of hy
  have cz:op.g <gs.size:=by
   rcases Array.mem_append.1 (mem_of_getElem? ho) with h'|h'
   ·exact hL.ops op h'
   ·rw[(I2 op h').1,hL.size];omega
  cases hgo:op.g with
  |zero=>have:=knows_own ho;rwa[hgo] at this
  |succ k=>
   have hk:k <q.length:=by have:=hL.size;omega
   obtain⟨j,hj,my⟩:=cY k _ (List.getElem?_eq_getElem hk) p (by simp[Trace.g?,ho,hgo]) ⟨y,by simpa [touchAt] using hy,by cases hl:y.loc<;>simp_all[blk,Loc.isMemory],.inl (by rw[Qb];simp)⟩
   obtain⟨z',Df,hzg⟩:=Option.map_eq_some_iff.1 hj
   exact⟨j,z',Df,hzg,.inr my⟩
 ·obtain⟨y,d,hy,hq,hdd,hk⟩:=hL.ok i n hi
  exact⟨y,d,by rw[Array.getElem?_setIfInBounds_ne (by omega)];exact hy,hq,by rw[gv _ _ _ OI];exact hdd,cY i n hi⟩
 ·rw[aD _ _ hi] at hk;exact hL.none i b hi hk
 ·rw[Array.size_setIfInBounds]
  rcases Array.mem_append.1 aw with h'|h'
  ·exact hL.ops op h'
  ·rw[(I2 op h').1,hL.size];omega
 ·have:0 <gs.size:=by rw[hL.size];omega
  simp[this,finishComm_recv,recvd]
end
section
variable {ι:Type} {E:dV ι} {L:Nat→Option Obj} {K:Nat→St} {gs:Array Goroutine} {w w':World} {t:Trace} {D:List (ak ι)} {pend d0:Nat} {cl:y3} {main:Goroutine} {sl:Option (Nat×Nat)}
 {i:Nat} {Q:Machine→Outcome→World→Trace→Prop} {g:Goroutine} {s:St}
theorem setChan_at(w:World)(d c:Nat)(h:c <w.heap.size)(sn rc:Nat)(tm:Bool):
 ((w.at d).setChan c 0 #[] false sn rc tm).heap[c]?=some (.chan 0 #[] false sn rc tm)∧((w.at d).setChan c 0 #[] false sn rc tm).heap.size=w.heap.size∧
 ∀b,b≠c→((w.at d).setChan c 0 #[] false sn rc tm).heap[b]?=w.heap[b]?:=by
 refine⟨by simp[World.setChan,World.at,h],by simp[World.setChan,World.at],fun b hb=>by simp[World.setChan,World.at,Ne.symm hb]⟩
theorem Inv.alive(h:Inv E L K gs w t D 0 cl main d0)(iO:cl≠none)(hn:∀o,ak.gM o∉D):∃(i:Nat) (x:Goroutine),gs[i]?=some x∧x.status= .running:=by
 by_cases cY:∀r∈D,r.left=true∨r= .closer
 ·have iY:=h.sy.Dy
  obtain⟨st,sm,_,mV⟩:=h.sy.cells
  match cl,iY,mV,iO with
  |some (ic,c,n),⟨_,_,_,⟨gc,D8,pJ⟩,_⟩,mV,_=>
   refine⟨_,gc,D8,CK.uj pJ fun e=>?_⟩
   subst e
   have z:∀(f:ak ι→Nat),(∀q d c,f (.leave q d c)=0)→f .closer=0→fw f D=0:=fun f h1 h2=>by
    unfold fw
    rw[List.sum_eq_zero_iff_forall_eq_nat]
    intro x hx
    obtain⟨r,hr,rfl⟩:=List.mem_map.1 hx
    rcases cY r hr with e|rfl
    ·cases r<;>first|exact h1 _ _ _|cases e
    ·exact h2
   have z1:=z ak.cnt (fun _ _ _=>rfl) rfl
   have z4:=z ak.c4 (fun _ _ _=>rfl) rfl
   have z3:=z ak.c3 (fun _ _ _=>rfl) rfl
   have z2:=z ak.c2 (fun _ _ _=>rfl) rfl
   rw[z1,z4,z3,z2] at mV
   simp only[Option.map_some] at mV
   generalize ho:some CK.blk=o at mV
   generalize h0:0+0=k at mV
   cases mV with
   |reg _ h2=>omega
   |sema _ h2=>cases ho;exact h2 rfl
   |over h1=>cases ho;exact h1.elim
   |_=>cases ho
 ·obtain⟨r,lP⟩:=Classical.not_forall.1 cY
  obtain⟨hr,AU⟩:=Classical.not_imp.1 lP
  have h1:¬r.left=true:=fun e=>AU (.inl e)
  have h2:r≠ .closer:=fun e=>AU (.inr e)
  obtain⟨k,hk⟩:=List.getElem?_of_mem hr
  obtain⟨x,hx,fu⟩:=h.base.ok k r hk
  refine⟨_,x,hx,?_⟩
  cases r with
  |leave q d c=>exact absurd rfl h1
  |work o tr=>exact oC.running (fun _ _ y=>y.1) fu.2
  |gM o=>exact absurd hr (hn o)
  |back tr=>exact oC.running (fun _ _ y=>dV.pure.running (fun _ z=>z.1) y) fu.2
  |st k n=>exact Pure.running (WK.running k) fu.2.2.1
  |closer=>exact absurd rfl h2
theorem Inv.WG(h:Inv E L K gs w t D pend cl (parked g #[rcase E.Ch z] (.recv true)) 0)(iO:cl≠none){o:ι}{gw:Goroutine}(hi:D[i]?=some (.work o .leaf)) (hg:gs[i+1]?=some gw):
 ∃K' k9 w' u D' v X a b,runT E.P (crowd gs w sl) (i+1)=(.next (crowd k9 w' sl),u)∧Inv E L K' k9 w' (t++u) D' pend cl (Conc.served g (.tuple #[v,.bool true])) 0∧K' 0=⟨(K 0).ro,X++(K 0).rw⟩∧
  E.TA o v X∧kI D=a++o::b∧kI D'=a++b:=by
 obtain⟨fo,cW,fu⟩:=h.base.ok i _ hi
 obtain rfl:fo=gw:=by rw[hg] at cW;exact(Option.some.inj cW).symm
 obtain⟨hd,hs,qh,v,zs,X,Y,hXY,oe,bM,tr,iz,hle,xL⟩:=fu
 obtain⟨sn,rc,tm,hc⟩:=h.sy.chan
 have uM:=h.base.size
 have aOB:partners (gs.setIfInBounds (i+1) ph) E.Ch false=[(0,0)]:=by
  have h0:(gs.setIfInBounds (i+1) ph)[0]?=some (parked g #[rcase E.Ch z] (.recv true)):=stand_get (by omega) h.main
  rw[partners_one h0 fun k x hk hx=>?_]
  ·rw[offersAt_parked_recv];simp
  ·rcases getElem?_stand gs _ _ _ hx with ⟨_,rfl⟩| ⟨_,lO⟩
   ·exact offersAt_ph _ _
   ·cases k with
    |zero=>exact absurd rfl hk
    |succ k=>
     rcases h.offers lO with ⟨o',g',v',zs',_,rfl⟩|hn
     ·exact offersAt_parked_send' _ _ _ _ _ _
     ·exact hn _ _
 have bN:=crowd_send_meets (sl:=sl) hg (by simpa using bM w (h.base.fit.jQ _)) hc (by omega) h.main aOB
 have e0:MemOp.ofEvents (i+1) fo.frame.fn fo.frame.place #[]= #[]:=rfl
 rw[e0,Array.empty_append] at bN
 obtain⟨a,b,ha,hb⟩:=Bp (r':=ak.back tr) rfl hi (o:=o) rfl
 have hwc:=setChan_at w w.drawn E.Ch (lt_size hc) (sn+1) (rc+1) tm
 refine⟨_,_,_,_,_,v,X,a,b,bN,h.meet iO hi (.inl rfl) hd hXY hle xL (by simp) ?_ ?_ (fun k h1 h2=>?_) hc hwc.1 hwc.2.1 hwc.2.2 ⟨rfl,rfl⟩ ⟨rfl,rfl⟩ ⟨rfl,rfl⟩ ⟨rfl,rfl⟩ ⟨rfl,rfl⟩,aB _ _ _,oe,ha,hb⟩
 ·rw[Array.getElem?_setIfInBounds_ne (by omega),Array.getElem?_setIfInBounds_self_of_lt (by omega)]
  rw[finishComm_recv];rfl
 ·rw[Array.getElem?_setIfInBounds_self_of_lt (by have:=lt_size hg;simpa using this)]
  rw[finishComm_send]
 ·rw[Array.getElem?_setIfInBounds_ne (Ne.symm h2),Array.getElem?_setIfInBounds_ne (Ne.symm h1)]
theorem NG{os:List ι}
 (I5:∀a o b v X,os=a++o::b→E.TA o v X→TC E L Q 0 true (a++b) 0 (Conc.served g (.tuple #[v,.bool true])) ⟨s.ro,X++s.rw⟩)
 (qe:os=[]→∀pc,TL E.P (jk pc) L (GZ E pc) Q {parked g #[rcase E.Ch z] (.recv true) with status:= .running} s):
 ∀(μ:List (ak ι)×y3) K gs w t sl,μ.2.isSome=true→Inv E L K gs w t μ.1 0 μ.2 (parked g #[rcase E.Ch z] (.recv true)) 0→kI μ.1=os→K 0=s→(∀o,ak.gM o∉μ.1)→Ends E.P Q (crowd gs w sl) t:=by
 intro μ
 induction μ using (PLt.wf E.max).induction with
 |_ μ ih=>
  obtain⟨D,cl⟩:=μ
  intro K gs w t sl hb hI ho hK hn
  simp only at hb hI ho hn
  have iO:cl≠none:=fun e=>by rw[e] at hb;cases hb
  have OH:gR E (parked g #[rcase E.Ch z] (.recv true)):= .inr ⟨g,z,rfl⟩
  obtain⟨i,fo,d,P3,cW,FG,bM⟩:=crowd_pick (P:=E.P) (gs:=gs) (w:=w) (sl:=sl) (hI.awake OH) (hI.alive iO hn)
  have yF:=hI.at d
  cases i with
  |zero=>rw[hI.main] at cW;rw[←Option.some.inj cW] at FG;cases FG
  |succ i=>
   by_cases X4:D[i]?=some (.back .leaf)
   ·obtain⟨n,h1,h2,h3⟩:=hI.norm X4
    refine ih (_,cl) (Prod.Lex.left _ _ h3) _ gs w t sl hb h1 (h2.trans ho) (by rw[aD _ _ (by omega)];exact hK) fun o hm=>?_
    rcases List.mem_or_eq_of_mem_set hm with h'|h'
    ·exact hn o h'
    ·cases h'
   ·by_cases hc:∃n,cl=some (i,.run .leaf,n)
    ·obtain⟨n,e⟩:=hc
     subst e
     obtain⟨k9,w',u,q,hr,hL,h0,hdd,hG,tt⟩:=yF.close (sl:=P3) (main':={parked g #[rcase E.Ch z] (.recv true) with status:= .running}) (fun a a' w' hmw mY ⟨sn,tm,sS⟩=>by
      have:(mayWake E.P a&&a'.status != .blocked&&a'.status != .waiting)=true:=by rcases mY with e|e<;>simp[hmw,e]
      unfold Go.Conc.woken
      rw[if_pos this]
      exact again_recv_closed sS) cW
     exact Ends.next (bM.trans hr) (qe (ho.symm.trans tt) (t.size+1) _ k9 w' _ q P3 hL h0 (by simp only[if_true];rw[hK];exact St.le_refl _) (by rw[hdd]) hG)
    ·by_cases Dk:∃o,D[i]?=some (.work o .leaf)
     ·obtain⟨o,hi⟩:=Dk
      obtain⟨K',k9,w',u,D',v,X,a,b,hr,Ld,mL,oe,ha,my⟩:=yF.WG (sl:=P3) iO hi cW
      refine Ends.next (bM.trans hr) (I5 a o b v X (ho.symm.trans ha) oe K' k9 w' _ D' cl P3 hb Ld my ?_)
      rw[mL,hK];exact St.le_refl _
     ·obtain⟨K',k9,w',u,D',cl',hr,Ld,mL,G6,gF,cz,XK⟩:=yF.other (sl:=P3) OH cW FG X4 (fun n e=>hc ⟨n,e⟩) (fun hx=>absurd hx Dk)
      refine Ends.next (bM.trans hr) (ih (D',cl') cz K' k9 w' _ P3 (gF.trans hb) Ld (G6.trans ho) (mL.trans hK) fun o hm=>?_)
      rcases XK o hm with h'|h'
      ·exact hn o h'
      ·cases h'
theorem TZ{os:List ι}(hs:g.status= .running)(bM:∀w,aP s w→stepG E.P true g w= .comm g #[rcase E.Ch z] true (.recv true) w #[])
 (I5:∀a o b v X,os=a++o::b→E.TA o v X→TC E L Q 0 true (a++b) 0 (Conc.served g (.tuple #[v,.bool true])) ⟨s.ro,X++s.rw⟩)
 (qe:os=[]→∀pc,TL E.P (jk pc) L (GZ E pc) Q g s∧TL E.P (jk pc) L (GZ E pc) Q {parked g #[rcase E.Ch z] (.recv true) with status:= .running} s):TC E L Q 0 true os 0 g s:=by
 refine wK hs (fun K gs w t D cl sl m hb hI ho hK hm=>?_) fun _=>⟨rfl,rfl,fun h pc=>(qe h pc).1⟩
 have iO:cl≠none:=fun e=>by rw[e] at hb;cases hb
 obtain⟨sn,rc,tm,hc⟩:=hI.sy.chan
 have hgo:=bM w (hK▸hI.base.fit.jQ 0)
 have e0:MemOp.ofEvents 0 g.frame.fn g.frame.place #[]= #[]:=rfl
 by_cases ee:partners (gs.setIfInBounds 0 ph) E.Ch true=[]
 ·have bN:=crowd_waits (sl:=sl) hI.main (by simpa using hgo) (fun cc uC=>by
   simp only[List.mem_toArray,List.mem_singleton] at uC
   subst uC
   exact ways_recv_none hc ee)
  rw[e0] at bN
  have uM:=hI.base.size
  refine Ends.next (hm.trans bN) (NG I5 (fun h pc=>(qe h pc).2) (D,cl) K _ w _ sl hb ⟨⟨?_,by simp[uM],fun k r hk=>?_,fun k hk=>hI.base.far k (by simpa using hk),fun op aw=>?_,hI.base.same⟩,?_,?_,?_⟩ ho hK fun o hm=>?_)
  ·rw[Array.append_empty];exact hI.base.fit
  ·obtain⟨x,hx,fu⟩:=hI.base.ok k r hk
   exact⟨x,by rw[Array.getElem?_setIfInBounds_ne (by omega)];exact hx,by rw[Array.append_empty];exact fu⟩
  ·rw[Array.append_empty] at aw;rw[Array.size_setIfInBounds];exact hI.base.ops op aw
  ·rw[Array.append_empty]
   refine⟨hI.sy.kW,hI.sy.kC,hI.sy.lW,hI.sy.lC,hI.sy.ne,hI.sy.norel,hI.sy.plain,hI.sy.said,hI.sy.cells,hI.sy.Bv,hI.sy.chan,hI.sy.bal,?_⟩
   have iY:=hI.sy.Dy
   match cl,iY with
   |none,iY=>exact iY
   |some (ic,c,n),⟨h1,h2,h3,⟨gc,D8,pJ⟩,h5⟩=>exact⟨h1,h2,h3,⟨gc,by rw[Array.getElem?_setIfInBounds_ne (by omega)];exact D8,pJ⟩,h5⟩
  ·rw[Array.getElem?_setIfInBounds_self_of_lt (by omega)]
  ·rw[Array.append_empty];exact hI.deaf
  ·obtain⟨k,hk⟩:=List.getElem?_of_mem hm
   obtain⟨x,hx,_,uR,qh,v,zs,X,Y,rfl,_⟩:=hI.base.ok k _ hk
   have:((k+1,0):Nat×Nat)∈partners (gs.setIfInBounds 0 ph) E.Ch true:=mem_partners.2 ⟨_,stand_get (by omega) hx,by rw[offersAt_parked_send];simp⟩
   rw[ee] at this;cases this
 ·obtain⟨j,gj,vj,zj,shj,d,hj0,hj,bN⟩:=crowd_recv_meets_some (sl:=sl) hI.main (by simpa using hgo) hc ee fun j k MA=>by
   obtain⟨x,hx,hk⟩:=mem_partners.1 MA
   rcases getElem?_stand gs _ _ _ hx with ⟨_,rfl⟩| ⟨hj0,lO⟩
   ·rw[offersAt_ph] at hk;cases hk
   ·cases j with
    |zero=>exact absurd rfl hj0
    |succ j=>
     rcases hI.offers lO with ⟨o',g',v',zs',_,rfl⟩|hn
     ·rw[offersAt_parked_send] at hk
      simp at hk
      exact⟨hk,by omega,_,_,_,_,lO⟩
     ·rw[hn] at hk;cases hk
  rw[e0,Array.empty_append] at bN
  cases j with
  |zero=>exact absurd rfl hj0
  |succ i=>
   rcases hI.offers hj with ⟨o,qh,v,zs,hi,e⟩|hn
   ·obtain⟨x,hx,yE,uR,aD2,v',zs',X,Y,e',hXY,oe,_,tr,iz,hle,xL⟩:=hI.base.ok i _ hi
    obtain rfl:x=parked gj #[scase E.Ch vj zj] shj:=by rw[hj] at hx;exact(Option.some.inj hx).symm
    have hv:vj=v':=by
     have:=congrArg Goroutine.offers e'
     simp only[parked,scase,Option.some.injEq,Prod.mk.injEq,Array.mk.injEq,List.cons.injEq,CommCase.mk.injEq] at this
     exact this.1.1.2.1
    have hsv:gj.finishComm E.P #[scase E.Ch vj zj] shj 0 undef false=Conc.served aD2 undef:=by
     have h1:shj= .send:=by
      have:=congrArg Goroutine.offers e'
      simp only[parked,Option.some.injEq,Prod.mk.injEq] at this
      exact this.2
     subst h1
     rw[finishComm_send]
     have h2:=congrArg (fun x:Goroutine=>Conc.served x undef) e'
     exact h2
    subst hv
    obtain⟨a,b,ha,my⟩:=Bp (r':=ak.back tr) rfl hi (o:=o) rfl
    have hwc:=setChan_at w d E.Ch (lt_size hc) (sn+1) (rc+1) tm
    have uM:=hI.base.size
    refine Ends.next (hm.trans bN) (I5 a o b vj X (ho.symm.trans ha) oe _ _ _ _ (D.set i (.back tr)) cl sl hb
     (hI.meet iO hi (.inr rfl) yE hXY hle xL (by simp) ?_ ?_ (fun k h1 h2=>?_) hc hwc.1 hwc.2.1 hwc.2.2 ⟨rfl,rfl⟩ ⟨rfl,rfl⟩ ⟨rfl,rfl⟩ ⟨rfl,rfl⟩ ⟨rfl,rfl⟩) my ?_)
    ·rw[Array.getElem?_setIfInBounds_self_of_lt (by simp;omega),finishComm_recv];rfl
    ·rw[Array.getElem?_setIfInBounds_ne (by omega),Array.getElem?_setIfInBounds_self_of_lt (lt_size hj),hsv]
    ·rw[Array.getElem?_setIfInBounds_ne (Ne.symm h1),Array.getElem?_setIfInBounds_ne (Ne.symm h2)]
    ·rw[aB,hK];exact St.le_refl _
   ·have:(0:Nat)∈offersAt (parked gj #[scase E.Ch vj zj] shj) E.Ch true:=by rw[offersAt_parked_send];simp
    rw[hn] at this;cases this
end
section
variable {ι:Type} {E:dV ι} {L:Nat→Option Obj} {K:Nat→St} {gs:Array Goroutine} {w w':World} {t:Trace} {D:List (ak ι)} {pend d0:Nat} {cl:y3} {sl:Option (Nat×Nat)}
 {Q:Machine→Outcome→World→Trace→Prop} {g g':Goroutine} {s:St} {es:Array Event}
theorem Inv.go0(h:Inv E L K gs w t D pend cl g d0)(hgo:stepG E.P true g w= .go g' w' es)(Ot:TB w w')(bW:¬s'.knows E.Wg)(qD:¬s'.knows E.Ch)(u2:w'.heap[E.Ch]?=w.heap[E.Ch]?)
 (pg:Fit L (fW K 0 s') w' (t++MemOp.ofEvents 0 g.frame.fn g.frame.place es))
 (kV:∀op∈MemOp.ofEvents 0 g.frame.fn g.frame.place es,∀x,op.act.touch?=some x→E.At x→x.kind≠ .plain∧(x.kind= .said→cl=none))
 (iC:∀op∈MemOp.ofEvents 0 g.frame.fn g.frame.place es,∀a,op.act≠ .mark (.release a)) 
 (nE:∀cl',yO cl cl'→∃st sm,WgAt E.ty E.Wg w' st sm∧Md E.max (fw ak.cnt D+lV) (fw ak.c4 D) (fw ak.c3 D) (fw ak.c2 D) (cl'.map (·.2.1)) st sm) (OG:fw ak.cnt D+lV≤E.max):
 ∃k9 u cl',runT E.P (crowd gs w sl) 0=(.next (crowd k9 w' sl),u)∧Inv E L (fW K 0 s') k9 w' (t++u) D lV cl' g' (deafBehind d0 es)∧cl'.isSome=cl.isSome:=by
 have I2:∀op∈MemOp.ofEvents 0 g.frame.fn g.frame.place es,op.g=0:=fun op aw=>Go.ConcR.g_of_ofEvents op aw
 have bN:=runT_crowd_go (P:=E.P) (sl:=sl) (i:=0) h.main (by simpa using hgo)
 have hdo:Deaf (t++MemOp.ofEvents 0 g.frame.fn g.frame.place es) 0=deafBehind d0 es:=by rw[Deaf_own,h.deaf]
 generalize MemOp.ofEvents 0 g.frame.fn g.frame.place es=u at*
 obtain⟨sn,rc,tm,hc⟩:=h.sy.chan
 have sS:w'.heap[E.Ch]?=some (.chan 0 #[] false sn rc tm):=by rw[u2];exact hc
 have ee:∀k,∀op∈u,op.g≠k+1:=fun k op aw=>by rw[I2 op aw];omega
 have Ha:∀b,¬s'.knows b→(∀j,¬(K j).knows b)→∀j,¬(fW K 0 s' j).knows b:=fun b h1 h2 j=>by
  by_cases e:j=0
  ·subst e;rw[aB];exact h1
  ·rw[aD _ _ e];exact h2 j
 obtain⟨cl',Dk,iY⟩:∃cl',yO cl cl'∧agM E (fW K 0 s') ((gs.map (woken E.P g g' w')).setIfInBounds 0 g') (t++u) D cl':=by
  have iY:=h.sy.Dy
  match cl,iY with
  |none,iY=>exact⟨none,.same _,iY⟩
  |some (ic,c,n),⟨h1,h2,h3,⟨gc,D8,pJ⟩,h5⟩=>
   obtain⟨c',n',hw,asF,_,hdc⟩:=CK.tries (ic:=ic) pJ g g' w'
   refine⟨some (ic,c',n'),hw,h1,h2,by rw[ig _ _ (ee ic),hdc];exact h3,⟨_,gz (by omega) D8,by rw[aD _ _ (by omega)];exact asF⟩,fun⟨tr,e⟩=>?_⟩
   subst e
   cases hw with
   |same=>
    obtain⟨q,a1,a2,a3,a4⟩:=h5 ⟨tr,rfl⟩
    have hq:=lt_of_act? a1
    exact⟨q,by rw[act?_old hq];exact a1,by rw[g?_old hq];exact a2,(heard_old hq).2 a3,fun i r hi hcu=>let ⟨p,hp,Vi⟩:=a4 i r hi hcu;⟨p,RelBy.other hp (ee i),Vi⟩⟩
 refine⟨_,u,cl',bN,⟨⟨pg,by simp[h.base.size],fun k r hk=>?_,fun k hk b hb=>?_,fun op aw=>?_,⟨Ot.1.trans h.base.same.1,Ot.2.trans h.base.same.2⟩⟩,
  ⟨Ha _ bW h.sy.kW,Ha _ qD h.sy.kC,h.sy.lW,h.sy.lC,h.sy.ne,fun a=>(h.sy.norel a).app fun op aw=>iC op aw a,fun j hj p x hx hb hk=>?_,?_,nE cl' Dk,OG,⟨sn,rc,tm,sS⟩,fun a b c hx=>h.sy.bal a b c (by rw[←u2];exact hx),iY⟩,?_,hdo⟩,by cases Dk<;>rfl⟩
 ·obtain⟨x,hx,fu⟩:=h.base.ok k r hk
  rw[aD _ _ (by omega)]
  have XP:=fu.other (ee k)
  by_cases Qj:r= .closer
  ·subst Qj;exact⟨_,gz (by omega) hx,trivial⟩
  ·exact⟨x,by rw[gz (by omega) hx,fu.woken Qj fun _=>⟨sn,rc,tm,sS⟩],XP⟩
 ·rw[Array.size_setIfInBounds,Array.size_map] at hk
  have:=h.base.size
  rw[aD _ _ (by omega)] at hb
  exact h.base.far k hk b hb
 ·rw[Array.size_setIfInBounds,Array.size_map]
  rcases Array.mem_append.1 aw with h'|h'
  ·exact h.base.ops op h'
  ·rw[I2 op h',h.base.size];omega
 ·rcases bx hx with ⟨_,lO⟩| ⟨_,op,Qf,_,xI⟩
  ·exact(h.sy.plain j hj p x lO hb hk).app u
  ·exact absurd hk (kV op Qf x xI hb).1
 ·have My:=h.sy.said
  match cl,cl',Dk,My,kV with
  |none,_,.same _,My,_=>
   intro p x hx hb hk
   rcases bx hx with ⟨_,lO⟩| ⟨hp,op,Qf,aw,xI⟩
   ·exact(My p x lO hb hk).app u
   ·exact BF I2 hp aw
  |some (ic,c,n),_,.same _,My,kV=>
   intro he p x hx hb hk
   rcases bx hx with ⟨_,lO⟩| ⟨_,op,Qf,_,xI⟩
   ·exact(My he p x lO hb hk).app u
   ·exact absurd ((kV op Qf x xI (.inl hb)).2 hk) (by simp)
  |_,_,.up ic,_,_=>exact fun he=>he.elim
 ·have:=h.base.size
  rw[Array.getElem?_setIfInBounds_self_of_lt (by simp;omega)]
theorem Inv.GD(h:Inv E L K gs w t D pend cl g d0)(hw:w'.heap[E.Wg]?=w.heap[E.Wg]?):∀cl',yO cl cl'→∃st sm,WgAt E.ty E.Wg w' st sm∧Md E.max (fw ak.cnt D+pend) (fw ak.c4 D) (fw ak.c3 D) (fw ak.c2 D) (cl'.map (·.2.1)) st sm:=by
 intro cl' Dk
 obtain⟨st,sm,ha,hm⟩:=h.sy.cells
 exact⟨st,sm,by unfold WgAt;rw[hw];exact ha,hm.an1 Dk⟩
def TM(E:dV ι)(L:Nat→Option Obj)(Q:Machine→Outcome→World→Trace→Prop)(pend:Nat)(b:Bool)(os:List ι)(d0:Nat)(g:Goroutine)(s:St):Prop:=
 TC E L Q pend b os d0 g s∧(b=true→os=[]→∀pc,TL E.P (jk pc) L (GZ E pc) Q g s)
theorem TC.mono{os:List ι}(hl:s.le s')(h:TC E L Q pend b os d0 g s):TC E L Q pend b os d0 g s':=
 fun K gs w t D cl sl hb hI ho hle=>h K gs w t D cl sl hb hI ho (hl.trans hle)
theorem fp(b:Bool)(os:List ι)(hb:b=true→pend=0):Closed E.P true (TM E L Q pend b os 0) where
 step:=fun g s hs h=>by
  have hL:b=true→os=[]→∀pc,TL E.P (jk pc) L (GZ E pc) Q g s:=fun e ho pc=>
   (H8 (Pa pc) (Ge E pc) Q).step g s hs fun w ha=>let ⟨g',w',es,s',h1,h2,h3,h4⟩:=h w ha;⟨g',w',es,s',h1,h2,h3,h4.2 e ho pc⟩
  refine⟨wK hs (fun K gs w t D cl sl m iO hI ho hK hm=>?_) fun e=>⟨hb e,rfl,fun ho pc=>hL e ho pc⟩,hL⟩
  subst hK
  obtain⟨g',w',es,s',hgo,_,ht,hT,_⟩:=h w (hI.base.fit.jQ 0)
  obtain⟨k1,k2,k3,k4,k5,k6⟩:=hI.sy.zl ht g.frame.fn g.frame.place
  obtain⟨k9,u,cl',hr,yF,Sw⟩:=hI.go0 (sl:=sl) hgo ⟨ht.os,ht.output⟩ k1 k2 k4 (hI.base.fit.own ht _ _) (fun op aw x hx rN=>absurd rN (k5 op aw x hx)) k6 (hI.GD k3) hI.sy.Bv
  rw[ht.deaf] at yF
  exact Ends.next (hm.trans hr) (hT _ k9 w' _ D cl' sl (Sw.trans iO) yF ho (by rw[aB];exact St.le_refl _))
 mono:=fun g s s' hl h=>⟨h.1.mono hl,fun e ho pc=>(h.2 e ho pc).mono hl⟩
theorem Md.opened{mx n a b c:Nat}{o:Option CK}{st sm:Int}(h:Md mx n a b c o st sm)(ho:o=none):st=(n:Int)*KK∧sm=0:=by
 cases h with
 |start=>exact⟨rfl,rfl⟩
 |_=>cases ho
theorem DO{os:List ι}{d':Nat}(hs:g.status= .running)(hb:b=false)
 (h:∀w st sm,WgAt E.ty E.Wg w st sm→(b=false→st=((os.length+pend:Nat):Int)*KK∧sm=0)→os.length+pend≤E.max→∃w',stepG E.P true g w= .go g' w' es∧eJ E w w'∧WgAt E.ty E.Wg w' (((os.length+lV:Nat):Int)*KK) 0)
 (yC:∀e∈es,iK E e)(hd:deafBehind d0 es=d')(hp:os.length+pend≤E.max→os.length+lV≤E.max)(hT:TC E L Q lV b os d' g' s):TC E L Q pend b os d0 g s:=by
 subst hb
 refine wK hs (fun K gs w t D cl sl m iO hI ho hK hm=>?_) fun e=>(by cases e)
 subst hK
 have hcn:cl=none:=by cases cl<;>simp_all
 subst hcn
 have iY:=hI.sy.Dy
 have asv:∀D:List (ak ι),(∀r∈D,r.early)→fw ak.cnt D=(kI D).length∧fw ak.c4 D=0∧fw ak.c3 D=0∧fw ak.c2 D=0:=by
  intro D
  induction D with
  |nil=>intro _;exact⟨rfl,rfl,rfl,rfl⟩
  |cons r D ih=>
   intro hr
   obtain⟨i1,i4,i3,i2⟩:=ih fun x hx=>hr x (by simp[hx])
   have:=hr r (by simp)
   simp only[fw,List.map_cons,List.sum_cons,kI,List.filterMap_cons] at*
   cases r<;>first|exact this.elim| (simp[ak.cnt,ak.c4,ak.c3,ak.c2,ak.Uy,i1,i4,i3,i2];try omega)
 obtain⟨c1,c4,c3,c2⟩:=asv D iY
 rw[ho] at c1
 obtain⟨st,sm,ha,mV⟩:=hI.sy.cells
 have HL:=hI.sy.Bv
 rw[c1] at HL
 have bM:st=((os.length+pend:Nat):Int)*KK∧sm=0:=by
  rw[c1] at mV
  exact mV.opened rfl
 obtain⟨w',hgo,htu,uD⟩:=h w st sm ha (fun _=>bM) HL
 have az3:=iK.ops yC 0 g.frame.fn g.frame.place
 obtain⟨k9,u,cl',hr,yF,Sw⟩:=hI.go0 (sl:=sl) (s':=K 0) (lV:=lV) hgo htu.same (hI.sy.kW 0) (hI.sy.kC 0) (htu.block _ (Ne.symm hI.sy.ne)) (by rw[lU];exact hI.sy.Am hI.base.fit (.inl rfl) htu yC _ _)
  (fun op aw x hx _=>by rw[((az3 op aw).2.2 x hx).2];exact⟨by simp,by simp⟩) (fun op aw=>(az3 op aw).2.1) (fun cl' hw=>by
   cases hw
   rw[c1,c4,c3,c2]
   exact⟨_,_,uD,.start⟩) (by rw[c1];exact hp HL)
 rw[hd] at yF
 exact Ends.next (hm.trans hr) (hT _ k9 w' _ D cl' sl (Sw.trans iO) yF ho (by rw[aB];exact St.le_refl _))
end
section
variable {ι:Type} {E:dV ι} {L:Nat→Option Obj} {K:Nat→St} {gs:Array Goroutine} {w w':World} {t:Trace} {D:List (ak ι)} {pend d0:Nat} {cl:y3} {sl:Option (Nat×Nat)}
 {Q:Machine→Outcome→World→Trace→Prop} {g g' child:Goroutine} {s iz:St} {es:Array Event}
theorem u6(f:ak ι→Nat)(D:List (ak ι))(r:ak ι):fw f (D++[r])=fw f D+f r:=by simp[fw]
theorem Inv.spawn(h:Inv E L K gs w t D pend none g 0)(hrw:(K 0).rw=[])(bM:stepG E.P true g w= .spawn g' child w #[])(hle:iz.le (K 0)){r:ak ι}{cl':y3} 
 (hr:r.left=false)(fu:∀t',Deaf t' gs.size=0→nN E t' gs.size iz child r)
 (hn:r.cnt+lV=pend)(h4:r.c4=0)(h3:r.c3=0)(h2:r.c2=0)
 (iO:(cl'=none∧r.early)∨(∃n,cl'=some (D.length,.kd,n)∧r= .closer∧CK.at E iz child n .kd)):
 ∃k9 u,runT E.P (crowd gs w sl) 0=(.next (crowd k9 w sl),u)∧Inv E L (fW K gs.size iz) k9 w (t++u) (D++[r]) lV cl' g' 0∧0 <gs.size:=by
 have uM:=h.base.size
 have bN:=runT_crowd_spawn (P:=E.P) (sl:=sl) (i:=0) h.main (by simpa using bM)
 have e0:MemOp.ofEvents 0 g.frame.fn g.frame.place #[]= #[]:=rfl
 rw[e0] at bN
 generalize hx:({g:=0,fn:=g.frame.fn,pos:=g.frame.place,act:= .go gs.size}:MemOp)=x at bN
 generalize hy:({g:=gs.size,fn:=child.frame.fn,pos:=g.frame.place,act:= .start}:MemOp)=y at bN
 have ex:x.g=0∧x.act= .go gs.size:=by rw[←hx];exact⟨rfl,rfl⟩
 have ey:y.g=gs.size∧y.act= .start:=by rw[←hy];exact⟨rfl,rfl⟩
 have eu:((#[]:Array MemOp).push x).push y= #[x,y]:=rfl
 rw[eu] at bN
 have hq:∀op∈ #[x,y],op.act.touch?=none:=by intro op aw;simp at aw;rcases aw with rfl|rfl<;>simp[ex.2,ey.2,MemAct.touch?]
 have OI:∀op∈ #[x,y],∀m,op.act≠ .mark m:=by intro op aw;simp at aw;rcases aw with rfl|rfl<;>simp[ex.2,ey.2]
 have hg:∀op∈ #[x,y],op.g=0∨op.g=gs.size:=by intro op aw;simp at aw;rcases aw with rfl|rfl<;>simp[ex.1,ey.1]
 have KW:Deaf t gs.size=0:=ConcN.Deaf_absent fun i op ho e=>by have:=h.base.ops op (mem_of_getElem? ho);omega
 have yE:∀k,Deaf (t++ #[x,y]) k=Deaf t k:=fun k=>gv t k _ OI
 have adT:∀p,Knows t 0 p→Knows (t++ #[x,y]) gs.size p:=fun p hp=>ConcN.fork_knows ex ey h.deaf KW hp
 have pg:=h.base.fit.quiet (u:= #[x,y]) (w':=w) E.Ch h.sy.kC h.sy.lC (Nat.le_refl _) (fun _ _ _=>rfl) hq
 have XL:iz.rw=[]:=by
  obtain⟨R,hR,_⟩:=hle
  rw[hrw] at hR
  have:=List.append_eq_nil_iff.1 (List.nil_perm.1 hR)
  exact this.1
 have zw:∀b o,iz.ro b=some o→(K 0).ro b=some o:=fun b o hb=>by
  obtain⟨R,hR,h2⟩:=hle
  rw[hrw] at hR
  have:=List.append_eq_nil_iff.1 (List.nil_perm.1 hR)
  rcases h2 b o hb with h3|h3
  ·exact h3
  ·rw[this.2] at h3;cases h3
 have adU:=pg.share (i:=0) (n:=gs.size) (by omega) iz XL zw fun b hb p z hz hzb hzw=>by
  rcases bx hz with ⟨_,Df⟩| ⟨_,op,hm,_,hzo⟩
  ·refine adT p (h.base.fit.qQ 0 b ?_ p z Df hzb hzw)
   cases my:iz.ro b with
   |none=>exact absurd my hb
   |some o=>rw[zw b o my];simp
  ·rw[hq op hm] at hzo;cases hzo
 have Ha:∀b,(∀j,¬(K j).knows b)→∀j,¬(fW K gs.size iz j).knows b:=fun b hb j hk=>by
  by_cases e:j=gs.size
  ·subst e;rw[aB] at hk;exact hb 0 (hle.knows hk)
  ·rw[aD _ _ e] at hk;exact hb j hk
 have iY:=h.sy.Dy
 have og:∀ {k z},(D++[r])[k]?=some z→(k <D.length∧D[k]?=some z)∨(k=D.length∧z=r):=fun {k z} hk=>by
  rcases Nat.lt_trichotomy k D.length with cz|e|hgt
  ·rw[List.getElem?_append_left cz] at hk;exact .inl ⟨cz,hk⟩
  ·subst e;rw[List.getElem?_append_right (Nat.le_refl _)] at hk;simp at hk;exact .inr ⟨rfl,hk.symm⟩
  ·rw[List.getElem?_eq_none (by simp;omega)] at hk;cases hk
 have hgs:∀k,k≠0→k <gs.size→((gs.setIfInBounds 0 g').push child)[k]?=gs[k]?:=fun k h0 cz=>by
  rw[Array.getElem?_push_lt (by simpa using cz),←Array.getElem?_eq_getElem,Array.getElem?_setIfInBounds_ne (Ne.symm h0)]
 have hgn:((gs.setIfInBounds 0 g').push child)[gs.size]?=some child:=by
  rw[Array.getElem?_push,if_pos (by simp)]
 refine⟨_,_,bN,⟨⟨adU,by simp[uM],fun k z hk=>?_,fun k hk b hb=>?_,fun op aw=>?_,h.base.same⟩,
  ⟨Ha _ h.sy.kW,Ha _ h.sy.kC,h.sy.lW,h.sy.lC,h.sy.ne,fun a=>(h.sy.norel a).app fun op aw=>OI op aw _,fun j hj p z hz hzb hzk=>?_,?_,?_,?_,h.sy.chan,h.sy.bal,?_⟩,?_,by rw[yE];exact h.deaf⟩,by omega⟩
 ·rcases og hk with ⟨cz,jL⟩| ⟨rfl,rfl⟩
  ·obtain⟨q,hqk,aOH⟩:=h.base.ok k z jL
   exact⟨q,by rw[hgs _ (by omega) (by omega)];exact hqk,by rw[aD _ _ (by omega)];exact aOH.other fun op aw=>by rcases hg op aw with e|e<;>rw[e]<;>omega⟩
  ·refine⟨child,by rw[←uM];exact hgn,?_⟩
   rw[←uM,aB]
   exact fu _ (by rw[yE];exact KW)
 ·rw[Array.size_push,Array.size_setIfInBounds] at hk
  rw[aD _ _ (by omega)] at hb
  exact h.base.far k (by omega) b hb
 ·rw[Array.size_push,Array.size_setIfInBounds]
  rcases Array.mem_append.1 aw with h'|h'
  ·have:=h.base.ops op h';omega
  ·rcases hg op h' with e|e<;>rw[e]<;>omega
 ·rcases bx hz with ⟨_,Df⟩| ⟨_,op,hm,_,hzo⟩
  ·rcases hj with rfl| ⟨k,q,rfl,hk,hl⟩
   ·exact(h.sy.plain 0 (.inl rfl) p z Df hzb hzk).app _
   ·rcases og hk with ⟨_,jL⟩| ⟨rfl,rfl⟩
    ·exact(h.sy.plain (k+1) (.inr ⟨k,q,rfl,jL,hl⟩) p z Df hzb hzk).app _
    ·rw[←uM];exact adT p (h.sy.plain 0 (.inl rfl) p z Df hzb hzk)
  ·rw[hq op hm] at hzo;cases hzo
 ·have My:=h.sy.said
  rcases iO with ⟨rfl,_⟩| ⟨n,rfl,_,_⟩
  ·intro p z hz hzb hzk
   rcases bx hz with ⟨_,Df⟩| ⟨_,op,hm,_,hzo⟩
   ·exact(My p z Df hzb hzk).app _
   ·rw[hq op hm] at hzo;cases hzo
  ·intro _ p z hz hzb hzk
   rcases bx hz with ⟨_,Df⟩| ⟨_,op,hm,_,hzo⟩
   ·rw[←uM];exact adT p (My p z Df hzb hzk)
   ·rw[hq op hm] at hzo;cases hzo
 ·obtain⟨st,sm,ha,mV⟩:=h.sy.cells
  refine⟨st,sm,ha,?_⟩
  rw[u6,u6,u6,u6,h4,h3,h2,show fw ak.cnt D+r.cnt+lV=fw ak.cnt D+pend by omega]
  rcases iO with ⟨rfl,_⟩| ⟨n,rfl,_,_⟩
  ·exact mV
  ·have z:∀(f:ak ι→Nat),(∀r:ak ι,r.early→f r=0)→fw f D=0:=fun f hf=>by
    unfold fw
    rw[List.sum_eq_zero_iff_forall_eq_nat]
    intro a uD
    obtain⟨q,G5,rfl⟩:=List.mem_map.1 uD
    exact hf q (iY q G5)
   have z4:=z ak.c4 fun r hr=>by cases r<;>first|rfl|exact hr.elim
   have z3:=z ak.c3 fun r hr=>by cases r<;>first|rfl|exact hr.elim
   have z2:=z ak.c2 fun r hr=>by cases r<;>first|rfl|exact hr.elim
   obtain⟨rfl,rfl⟩:=mV.opened rfl
   rw[z4,z3,z2]
   exact .kd
 ·rw[u6];have:=h.sy.Bv;omega
 ·rcases iO with ⟨rfl,Qa⟩| ⟨n,rfl,rfl,pJ⟩
  ·intro z hz
   rcases List.mem_append.1 hz with h'|h'
   ·exact iY z h'
   ·simp at h';subst h';exact Qa
  ·refine⟨by simp,fun k hk=>?_,by rw[yE,←uM];exact KW,⟨child,by rw[←uM];exact hgn,by rw[←uM,aB];exact pJ⟩,fun⟨_,e⟩=>(by cases e)⟩
   rcases og hk with ⟨_,jL⟩| ⟨e,_⟩
   ·exact(iY _ (List.mem_of_getElem? jL)).elim
   ·exact e
 ·rw[Array.getElem?_push_lt (by simp;omega),←Array.getElem?_eq_getElem,Array.getElem?_setIfInBounds_self_of_lt (by omega)]
theorem Ib{os:List ι}{o:ι}(hs:g.status= .running)(hrw:s.rw=[])(bM:∀w,aP s w→stepG E.P true g w= .spawn g' child w #[])(hw:eR E.P false (E.H4 o) child s)
 (hT:TC E L Q 0 false (os++[o]) 0 g' s):TC E L Q 1 false os 0 g s:=by
 refine wK hs (fun K gs w t D cl sl m iO hI ho hK hm=>?_) fun e=>(by cases e)
 subst hK
 have hcn:cl=none:=by cases cl<;>simp_all
 subst hcn
 obtain⟨tr,iz,hle,htr⟩:=hw
 obtain⟨k9,u,hr,yF,h0⟩:=hI.spawn (sl:=sl) (r:= .work o tr) (cl':=none) (lV:=0) hrw (bM w (hI.base.fit.jQ 0)) hle rfl (fun t' hd=>⟨hd,htr⟩) rfl rfl rfl rfl (.inl ⟨rfl,trivial⟩)
 exact Ends.next (hm.trans hr) (hT _ k9 w _ _ none sl rfl yF (by simp[kI,List.filterMap_append,ak.Uy] at ho ⊢;exact ho) (by rw[aD _ _ (by omega)];exact St.le_refl _))
theorem Ic{os:List ι}(hs:g.status= .running)(hrw:s.rw=[])(bM:∀w,aP s w→stepG E.P true g w= .spawn g' child w #[])(hw:E.closes s child)
 (hT:TC E L Q 0 true os 0 g' s):TC E L Q 0 false os 0 g s:=by
 refine wK hs (fun K gs w t D cl sl m iO hI ho hK hm=>?_) fun e=>(by cases e)
 subst hK
 have hcn:cl=none:=by cases cl<;>simp_all
 subst hcn
 obtain⟨n,hn⟩:=hw
 obtain⟨k9,u,hr,yF,h0⟩:=hI.spawn (sl:=sl) (iz:=K 0) (r:= .closer) (cl':=some (D.length,.kd,n)) (lV:=0) hrw (bM w (hI.base.fit.jQ 0)) (St.le_refl _) rfl (fun t' hd=>trivial) rfl rfl rfl rfl (.inr ⟨n,rfl,rfl,hn⟩)
 exact Ends.next (hm.trans hr) (hT _ k9 w _ _ _ sl rfl yF (by rw[kI,List.filterMap_append];simp only[List.filterMap_cons,ak.Uy,List.filterMap_nil,List.append_nil];exact ho) (by rw[aD _ _ (by omega)];exact St.le_refl _))
end
section
variable {ι:Type} {E:dV ι} {Q:Machine→Outcome→World→Trace→Prop} {g:Goroutine} {s s':St}
theorem MY{L:Nat→Option Obj}(hs:g.status= .running)(ee:E.Wg≠E.Ch)
 (hW:(E.Wg,wgBlock E.ty 0 0)∈s.rw)(hC:∃tm,(E.Ch,Obj.chan 0 #[] false 0 0 tm)∈s.rw)
 (hle:s'.le s)(hkW:¬s'.knows E.Wg)(hkC:¬s'.knows E.Ch)(kL:∀b,s'.iV b→L b=none)
 (hL:∀b o,L b=some o→s.has b o∧b≠E.Wg∧b≠E.Ch)
 (hT:TC E L Q 0 false [] 0 g s'):TL E.P eC (fun _=>none) (Calm E.os E.out) Q g s:=by
 intro K gs w t q sl hLv h0 aPd hd ⟨art,acZ⟩
 have hLv:=hLv.le aPd
 have XL:(fW K 0 s) 0=s:=aB _ _ _
 have pn:=hLv.fit.jQ 0
 rw[XL] at pn
 obtain⟨tm,hC⟩:=hC
 have hWw:=pn.rw _ _ hW
 have hCw:=pn.rw _ _ hC
 have hex:∀i,i <q.length→∃d,∃x,gs[i+1]?=some x∧QuitsD E.P (q.getD i 0) d x∧Deaf t (i+1)=d∧eC t (i+1):=fun i hi=>by
  obtain⟨x,d,h1,h2,h3,h4⟩:=hLv.ok i _ (List.getElem?_eq_getElem hi)
  exact⟨d,x,h1,by rw[List.getD_eq_getElem?_getD,List.getElem?_eq_getElem hi];exact h2,h3,h4⟩
 let D:List (ak ι):=(List.range q.length).map fun i=>ak.leave (q.getD i 0) (Deaf t (i+1)) false
 have hD:∀i r,D[i]?=some r→i <q.length∧r=ak.leave (q.getD i 0) (Deaf t (i+1)) false:=fun i r hi=>by
  simp only[D,List.getElem?_map] at hi
  obtain⟨j,hj,rfl⟩:=Option.map_eq_some_iff.1 hi
  obtain⟨cz,rfl⟩:=List.getElem?_eq_some_iff.1 hj
  simp only[List.length_range] at cz
  simp only[List.getElem_range]
  exact⟨cz,trivial⟩
 have iX:∀r∈D,∃a b,r=ak.leave a b false:=fun r hr=>by
  obtain⟨i,hi⟩:=List.getElem?_of_mem hr
  exact⟨_,_,(hD i r hi).2⟩
 have hzero:∀f:ak ι→Nat,(∀a b,f (.leave a b false)=0)→fw f D=0:=fun f hf=>by
  unfold fw
  rw[List.sum_eq_zero_iff_forall_eq_nat]
  intro x hx
  obtain⟨r,hr,rfl⟩:=List.mem_map.1 hx
  obtain⟨a,b,rfl⟩:=iX r hr
  exact hf a b
 let K':Nat→St:=fun j=>if j=0 then s' else ⟨fun _=>none,[]⟩
 have Vz:K' 0=s':=by simp[K']
 have hKn:∀j,j≠0→K' j=⟨fun _=>none,[]⟩:=fun j hj=>by simp[K',hj]
 have none:∀j b,j≠0→¬(K' j).knows b:=fun j b hj hk=>by
  rw[hKn j hj] at hk
  rcases hk with hk| ⟨o,ho⟩
  ·exact hk rfl
  ·cases ho
 have FT:Fit (fun _=>Option.none) K' w t:=hLv.fit.le fun j=>by
  by_cases e:j=0
  ·subst e;rw[Vz,XL];exact hle
  ·rw[hKn j e];exact⟨(fW K 0 s j).rw,by simp,fun b o hb=>(by cases hb)⟩
 have adU:Fit L K' w t:=by
  refine⟨fun b o hl=>pn.has (hL b o hl).1,fun i b ho=>?_,FT.jQ,FT.sep,FT.perm,FT.qQ,FT.old,FT.clean,fun p x b hx hk hb=>⟨?_,(FT.sync p x b hx hk hb).2⟩⟩
  ·by_cases e:i=0
   ·subst e;rw[Vz] at ho;exact kL b ho
   ·exact absurd (.inr ho) (none i b e)
  ·cases hl:L b with
   |none=>rfl
   |some o=>
    have:=(hLv.fit.sync p x b hx hk hb).2 0
    rw[XL] at this
    rcases(hL b o hl).1 with h1|h1
    ·exact absurd (.inl (by rw[h1];simp)) this
    ·exact absurd (.inr ⟨o,h1⟩) this
 have hLb:∀b,(b=E.Wg∨b=E.Ch)→L b=Option.none:=fun b hb=>by
  cases hl:L b with
  |none=>rfl
  |some o=>
   rcases hb with e|e
   ·exact absurd e (hL b o hl).2.1
   ·exact absurd e (hL b o hl).2.2
 have hKk:∀b,¬s'.knows b→∀j,¬(K' j).knows b:=fun b hb j=>by
  by_cases e:j=0
  ·subst e;rw[Vz];exact hb
  ·exact none j b e
 have amd:∀p x,touchAt t p=some x→blk x.loc=some E.Wg→Knows t 0 p:=fun p x hx hb=>hLv.fit.perm 0 E.Wg (by rw[XL];exact⟨_,hW⟩) p x hx hb
 have ayk:∀p x,touchAt t p=some x→E.At x→Knows t 0 p:=fun p x hx hb=>hb.elim (amd p x hx) fun hb=>hLv.fit.perm 0 E.Ch (by rw[XL];exact⟨_,hC⟩) p x hx hb
 refine hT K' gs w t D Option.none sl rfl ⟨⟨adU,by simp[D,hLv.size],fun i r hi=>?_,fun i hi b=>?_,hLv.ops,acZ⟩,
  ⟨hKk _ hkW,hKk _ hkC,hLb _ (.inl rfl),hLb _ (.inr rfl),ee,art,fun j hj p x hx hb _=>?_,fun p x hx hb _=>amd p x hx hb,⟨0,0,hWw,?_⟩,?_,⟨0,0,tm,hCw⟩,fun a b c hx=>?_,fun r hr=>?_⟩,h0,hd⟩ ?_ (by rw[Vz];exact St.le_refl _)
 ·obtain⟨cz,rfl⟩:=hD i r hi
  obtain⟨d,x,h1,h2,h3,h4⟩:=hex i cz
  exact⟨x,h1,hKn _ (by omega),by rw[h3];exact h2,rfl,(fun e=>(by cases e)),fun _=>h4⟩
 ·exact none i b (by have:=hLv.size;omega)
 ·rcases hj with rfl| ⟨k,r,rfl,hk,hl⟩
  ·exact ayk p x hx hb
  ·obtain⟨_,rfl⟩:=hD k r hk;cases hl
 ·rw[hzero ak.cnt fun _ _=>rfl,hzero ak.c4 fun _ _=>rfl,hzero ak.c3 fun _ _=>rfl,hzero ak.c2 fun _ _=>rfl]
  have:=Md.start (mx:=E.max) (n:=0)
  simpa using this
 ·rw[hzero ak.cnt fun _ _=>rfl];omega
 ·rw[hCw] at hx
  simp only[Option.some.injEq,Obj.chan.injEq] at hx
  omega
 ·obtain⟨a,b,rfl⟩:=iX r hr;rfl
 ·unfold kI
  rw[List.filterMap_eq_nil_iff]
  intro r hr
  obtain⟨a,b,rfl⟩:=iX r hr;rfl
end
theorem Cu(os:Os)(out:Array (Nat×ByteArray)):We (Calm os out) where
 grow:=fun _ _ _ _ h hu=>⟨fun a=>(h.1 a).app fun op aw=>hu op aw a,h.2⟩
 drawn:=fun _ _ _ _ h=>h
 le:=fun _ _ _ _ h _=>h
 own:=fun _ _ _ _ _ _ _ h ht hu=>⟨fun a=>(h.1 a).app fun op aw=>hu op aw a,ht.os.trans h.2.1,ht.output.trans h.2.2⟩
def T0(P:Program)(os:Os)(out:Array (Nat×ByteArray))(Post:Value→World→Prop):Goroutine→St→Prop:=TL P eC (fun _=>none) (Calm os out) (Good P Post)
theorem sr(P:Program)(os:Os)(out:Array (Nat×ByteArray))(Post:Value→World→Prop):Closed P true (T0 P os out Post):=H8 CI (Cu os out) _
theorem Ww{os:Os}{out:Array (Nat×ByteArray)}{Post:Value→World→Prop}{g:Goroutine}(hs:g.status= .running)
 (bM:∀w,aP s w→w.os=os→w.output=out→∃v w' es s',stepG P true g w= .ended (.done v) w' es∧Post v w'∧Trans s w s' w' es):T0 P os out Post g s:=by
 refine JG CI (Cu os out) hs fun K gs w t q sl m hL h0 hK hd hi hm hmg=>?_
 subst hK
 obtain⟨v,w',es,s',hgo,hp,ht⟩:=bM w (hL.fit.jQ 0) hi.2.1 hi.2.2
 have hr:=ConcN.runT_crowd_ended (P:=P) (sl:=sl) (i:=0) h0 (by simpa using hgo)
 have pg:=hL.fit.own ht g.frame.fn g.frame.place
 generalize hu:MemOp.ofEvents 0 g.frame.fn g.frame.place es=u at hr pg
 have I2:∀op∈u,op.g=0:=by rw[←hu];exact fun op aw=>Go.ConcR.g_of_ofEvents op aw
 refine⟨0,m,.done v,w',t++u,by simp[runNT,hm,hr],rfl,by simp[step,hm,hr],v,rfl,hp,pg.clean,fun i k hk ee hc=>?_,⟨fun x hx=>?_,by rw[hmg.2];rfl⟩,fun i x hx ee=>?_⟩
 ·obtain⟨op,ho,bda⟩:=Option.map_eq_some_iff.1 hk
  cases k with
  |zero=>exact absurd rfl ee
  |succ k=>
   have cz:op.g <gs.size:=by
    rcases Array.mem_append.1 (mem_of_getElem? ho) with h'|h'
    ·exact hL.ops op h'
    ·rw[I2 op h',hL.size];omega
   have hkq:k <q.length:=by have:=hL.size;omega
   obtain⟨_,_,_,_,_,bO⟩:=hL.ok k _ (List.getElem?_eq_getElem hkq)
   exact(bO.other fun op aw=>by rw[I2 op aw];omega) i hk hc
 ·rw[hmg.1] at hx
  obtain⟨j,hj⟩:=List.getElem?_of_mem hx
  rw[List.getElem?_drop,Array.getElem?_toList] at hj
  have hjq:j <q.length:=by have:=lt_size hj;have:=hL.size;omega
  obtain⟨y,d,hy,hq,_⟩:=hL.ok j _ (List.getElem?_eq_getElem hjq)
  rw[Nat.add_comm] at hj
  rw[hj] at hy
  obtain rfl:=Option.some.inj hy
  exact⟨_,hq.leaves⟩
 ·rw[hmg.1] at hx
  cases i with
  |zero=>exact absurd rfl ee
  |succ j=>
   have hjq:j <q.length:=by have:=lt_size hx;have:=hL.size;omega
   obtain⟨y,d,hy,hq,hdd,_⟩:=hL.ok j _ (List.getElem?_eq_getElem hjq)
   rw[hx] at hy
   obtain rfl:=Option.some.inj hy
   refine⟨q[j],?_⟩
   have e:(t++u).deaf (j+1) (t++u).size=d:=by
    have:=ig t u (g:=j+1) fun op aw=>by rw[I2 op aw];omega
    unfold Deaf at this hdd
    rw[this];exact hdd
   rw[e]
   exact hq.hears m.world
theorem aal{Post:Value→World→Prop}{g:Goroutine}{w:World}(ha:aP s w)(h:T0 P w.os w.output Post g s):Ends P (Good P Post) (solo g w) #[]:=by
 rw[solo_eq_crowd]
 have I4:∀p x,touchAt #[] p=some x→False:=fun p x hx=>by simp[touchAt,Trace.act?] at hx
 have hn:∀i,i≠0→∀b,¬((if i=0 then s else ⟨fun _=>none,[]⟩:St)).knows b:=fun i hi b hk=>by
  rw[if_neg hi] at hk
  rcases hk with hk| ⟨o,ho⟩
  ·exact hk rfl
  ·cases ho
 refine h (fun j=>if j=0 then s else ⟨fun _=>none,[]⟩) #[g] w #[] [] none ⟨⟨(fun _ _ e=>(by cases e)),fun _ _ _=>rfl,fun i=>?_,fun i j b G9 ho hk=>?_,fun _ _ _ p x hx=>(I4 p x hx).elim,fun _ _ _ p x hx=>(I4 p x hx).elim,
  fun p x _ hx=>(I4 p x hx).elim,(fun said ⟨i,j,_,⟨a,b,h1,_⟩,_⟩=>by simp[Trace.act?] at h1),fun p x _ hx=>(I4 p x hx).elim⟩,rfl,fun i n hi=>by simp at hi,fun i b hi hk=>hn i hi b hk,by simp⟩ rfl (by simp only[if_true];exact St.le_refl _) rfl ⟨fun a i=>by simp[Trace.act?],rfl,rfl⟩
 ·by_cases e:i=0
  ·simp only[e,if_true];exact ha
  ·simp only[if_neg e];exact⟨(fun _ _ e=>(by cases e)),(fun _ _ e=>(by cases e)),by simp,(fun _ _ e=>(by cases e))⟩
 ·by_cases e:j=0
  ·exact hn i (fun e'=>G9 (e'.trans e.symm)) b (.inr ho)
  ·exact hn j e b hk
section
variable {ι:Type} {E:dV ι} {L:Nat→Option Obj} {pend d0:Nat} {Q:Machine→Outcome→World→Trace→Prop} {g g':Goroutine} {s:St} {os:List ι}
theorem T1(hs:g.status= .running)(bM:∀w,E.live w→stepG E.P true g w= .go g' w #[])(hT:TC E L Q pend false os d0 g' s):TC E L Q pend false os d0 g s:=
 DO (es:= #[]) (lV:=pend) hs rfl (fun w st sm ha hb _=>⟨w,bM w ⟨st,sm,ha⟩,eJ.refl w,by obtain⟨rfl,rfl⟩:=hb rfl;exact ha⟩) (by simp) rfl id hT
theorem ah8(hs:g.status= .running)(bM:∀w,E.live w→stepG E.P true g w= .go g' w #[said (.read (smA E.Wg))])(hT:TC E L Q pend false os d0 g' s):TC E L Q pend false os d0 g s:=by
 refine wK hs (fun K gs w t D cl sl m iO hI ho hK hm=>?_) fun e=>(by cases e)
 subst hK
 have hcn:cl=none:=by cases cl<;>simp_all
 subst hcn
 obtain⟨st,sm,ha,_⟩:=hI.sy.cells
 have hgo:=bM w ⟨st,sm,ha⟩
 have e1:MemOp.ofEvents 0 g.frame.fn g.frame.place #[said (.read (smA E.Wg))]= #[{g:=0,fn:=g.frame.fn,pos:=g.frame.place,act:= .mark (.read (smA E.Wg))}]:=by rw[ofEvents_eq];simp[said,Go.ConcR.ofEvent_mk]
 have ark:∀op∈MemOp.ofEvents 0 g.frame.fn g.frame.place #[said (.read (smA E.Wg))],op.g=0∧op.act= .mark (.read (smA E.Wg)):=by
  rw[e1];intro op aw;simp only[List.mem_toArray,List.mem_singleton] at aw;subst aw;exact⟨rfl,rfl⟩
 have htc:∀op∈MemOp.ofEvents 0 g.frame.fn g.frame.place #[said (.read (smA E.Wg))],∀x,op.act.touch?=some x→x=⟨.cell (smA E.Wg),false,.said⟩:=fun op aw x hx=>by
  rw[(ark op aw).2] at hx;simp only[MemAct.touch?,Option.some.injEq] at hx;exact hx.symm
 obtain⟨k9,u,cl',hr,yF,Sw⟩:=hI.go0 (sl:=sl) (s':=K 0) (lV:=pend) hgo ⟨rfl,rfl⟩ (hI.sy.kW 0) (hI.sy.kC 0) rfl (by
  rw[lU]
  refine hI.base.fit.beside E.Wg 0 hI.sy.kW hI.sy.lW (lt_size ha) (Nat.le_refl _) (fun _ _ _=>rfl) (fun op aw=>(ark op aw).1) fun op aw x hx=>?_
  obtain rfl:=htc op aw x hx
  refine⟨rfl,fun sd p a uD hc=>?_⟩
  have hl:blk a.loc=some E.Wg:=by rw[hc.1];rfl
  rcases hc.2.2.2 with h3|h3|h3
  ·exact hI.sy.plain 0 (.inl rfl) p a uD (.inl hl) h3
  ·cases h3
  ·exact hI.sy.said p a uD hl h3.2.1)
  (fun op aw x hx _=>by obtain rfl:=htc op aw x hx;exact⟨by simp,fun _=>rfl⟩) (fun op aw a=>by rw[(ark op aw).2];simp) (hI.GD rfl) hI.sy.Bv
 exact Ends.next (hm.trans hr) (hT _ k9 w _ D cl' sl (Sw.trans iO) yF ho (by rw[aB];exact St.le_refl _))
end
abbrev Jz:=Option Value×Option Value
abbrev ju:Jz:=(none,none)
def GG:Jz→Nat→Option Value
 | (a,_),0=>a
 | (_,b),1=>b
 |_,_=>none
theorem PJ(off:Nat):GG ju off=none:=by
 match off with
 |0=>rfl
 |1=>rfl
 |_+2=>rfl
def LX:Jz→Nat→Value→Jz
 | (_,b),0,v=>(some v,b)
 | (a,_),1,v=>(a,some v)
 |c,_,_=>c
inductive RH(α:Type) where
 |ok (a:α)
 |halt (h:Halt)
structure VO(α:Type) where
 r:RH α
 ws:List (Nat×Value)
 es:List Event
 bs:List Nat
def uK(P:Program)(ty:TypeId):Sem α→Jz→Option (VO α)
 | .pure a,_=>some ⟨.ok a,[],[],[]⟩
 | .load m a k,c=>match a.spot with
  |some _=>none
  |none=>match GG c a.off with
   |some v=>match uK P ty (k v) c with
    |some o=>some ⟨o.r,o.ws,⟨.cell a,false,m== .atomic⟩::o.es,a.block::o.bs⟩
    |none=>none
   |none=>none
 | .store m a v k,c=>match a.spot with
  |some _=>none
  |none=>bif single v then (match GG c a.off with
   |some _=>match uK P ty k (LX c a.off v) with
    |some o=>some ⟨o.r,(a.off,v)::o.ws,⟨.cell a,true,m== .atomic⟩::o.es,a.block::o.bs⟩
    |none=>none
   |none=>none) else none
 | .shape r k,c=>match uK P ty (k (some (ty,2))) c with
  |some o=>some ⟨o.r,o.ws,o.es,r::o.bs⟩
  |none=>none
 | .frozen a k,c=>match uK P ty (k false) c with
  |some o=>some ⟨o.r,o.ws,o.es,a.block::o.bs⟩
  |none=>none
 | .program k,c=>uK P ty (k P) c
 | .mark m k,c=>match uK P ty k c with
  |some o=>some ⟨o.r,o.ws,⟨.mark m,false,true⟩::o.es,o.bs⟩
  |none=>none
 | .halt h,_=>some ⟨.halt h,[],[],[]⟩
 |_,_=>none
def mh(ty:TypeId)(W:Nat)(w:World)(c:Jz):Prop:=∃a b,w.heap[W]?=some (.cells #[a,b] ty)∧(∀x,c.1=some x→a=x)∧∀x,c.2=some x→b=x
theorem mh.aav{w:World}{c:Jz}(h:mh ty W w c):∃a b,w.heap[W]?=some (.cells #[a,b] ty):=by
 obtain⟨a,b,h,_⟩:=h
 exact⟨a,b,h⟩
def Kc(W:Nat)(w:World)(ws:List (Nat×Value)):World:=ws.foldl (fun w x=>w.setCell ⟨W,x.1,none⟩ x.2) w
def RH.to(w:World):RH α→Result α
 | .ok a=> .ok a w
 | .halt h=> .halt h w
theorem GF{w:World}{c:Jz}(h:mh ty W w c){v:Value}(hv:GG c off=some v):w.cell? ⟨W,off,none⟩=some v:=by
 obtain⟨p,q,h,h1,h2⟩:=h
 unfold GG at hv
 split at hv<;>try (cases hv;done)
 ·rw[←h1 _ hv];simp[World.cell?,h]
 ·rw[←h2 _ hv];simp[World.cell?,h]
theorem Yu{w:World}{c:Jz}(h:mh ty W w c){u v:Value}(hv:GG c off=some u):mh ty W (w.setCell ⟨W,off,none⟩ v) (LX c off v):=by
 obtain⟨p,q,h,h1,h2⟩:=h
 unfold GG at hv
 split at hv<;>try (cases hv;done)
 ·exact⟨v,q,by simp[World.setCell,Array.getElem?_modify,h],by simp[LX],fun x hx=>h2 x hx⟩
 ·exact⟨p,v,by simp[World.setCell,Array.getElem?_modify,h],fun x hx=>h1 x hx,by simp[LX]⟩
theorem Z5{w:World}{a b:Value}(h:w.heap[W]?=some (.cells #[a,b] ty)) (off:Nat) (s:Option Nat):w.frozen? ⟨W,off,s⟩=false:=by
 simp[World.frozen?,h]
theorem JN(x:Sem α):∀ {c:Jz} {o:VO α} {w:World} (es:Array Event),uK P ty x c=some o→(∀b∈o.bs,b=W)→((c=ju∧o.bs=[])∨mh ty W w c)→x.runT P w es=(o.r.to (Kc W w o.ws),es++o.es.toArray):=by
 induction x with
 |pure a=>intro c o w es h hb hc;simp only[uK,Option.some.injEq] at h;subst h;simp[Sem.runT,RH.to,Kc]
 |halt a=>intro c o w es h hb hc;simp only[uK,Option.some.injEq] at h;subst h;simp[Sem.runT,RH.to,Kc]
 |load m a k ih=>
  intro c o w es h hb hc
  simp only[uK] at h
  split at h<;>try (cases h;done)
  rename_i hs
  split at h<;>try (cases h;done)
  rename_i v hv
  split at h<;>try (cases h;done)
  rename_i o1 h1
  simp only[Option.some.injEq] at h;subst h
  have e:a=⟨W,a.off,none⟩:=by
   have:=hb a.block (by simp)
   rcases a with ⟨x,y,z⟩
   simp only at hs this
   subst hs this;rfl
  have sS:mh ty W w c:=hc.elim (fun hh=>by rw[hh.1] at hv;rw[PJ] at hv;cases hv) id
  have FX:w.cell? a=some v:=by rw[e];exact GF sS hv
  simp only[Sem.runT,FX]
  rw[ih v _ h1 (fun b hm=>hb b (by simp[hm])) (.inr sS)]
  simp
 |store m a v k ih=>
  intro c o w es h hb hc
  simp only[uK] at h
  split at h<;>try (cases h;done)
  rename_i hs
  cases hsg:single v with
  |false=>rw[hsg] at h;cases h
  |true=>
  rw[hsg] at h;simp only[cond_true] at h
  split at h<;>try (cases h;done)
  rename_i u hu
  split at h<;>try (cases h;done)
  rename_i o1 h1
  simp only[Option.some.injEq] at h;subst h
  have e:a=⟨W,a.off,none⟩:=by
   have:=hb a.block (by simp)
   rcases a with ⟨x,y,z⟩
   simp only at hs this
   subst hs this;rfl
  have sS:mh ty W w c:=hc.elim (fun hh=>by rw[hh.1] at hu;rw[PJ] at hu;cases hu) id
  have FX:w.cell? a=some u:=by rw[e];exact GF sS hu
  have hfz:w.frozen? a=false:=by
   obtain⟨p,q,Vi⟩:=sS.aav
   rw[e];exact Z5 Vi _ _
  have oN:=Yu (v:=v) sS hu
  have key:(Sem.store m a v k).runT P w es=k.runT P (w.setCell a v) (es.push ⟨.cell a,true,m== .atomic⟩):=by
   cases v<;>first| (cases hsg;done)|simp[Sem.runT,FX,hfz]
  rw[key,ih _ h1 (fun b hm=>hb b (by simp[hm])) (.inr (by rw[e];exact oN))]
  simp only[Kc,List.foldl_cons]
  rw[←e]
  simp
 |shape r k ih=>
  intro c o w es h hb hc
  simp only[uK] at h
  split at h<;>try (cases h;done)
  rename_i o1 h1
  simp only[Option.some.injEq] at h;subst h
  have e:r=W:=hb r (by simp)
  have sS:mh ty W w c:=hc.elim (fun hh=>by cases hh.2) id
  have hsh:w.shape? r=some (ty,2):=by
   obtain⟨p,q,Vi⟩:=sS.aav
   rw[e];simp[World.shape?,Vi]
  simp only[Sem.runT,hsh]
  exact ih _ _ h1 (fun b hm=>hb b (by simp[hm])) (.inr sS)
 |frozen a k ih=>
  intro c o w es h hb hc
  simp only[uK] at h
  split at h<;>try (cases h;done)
  rename_i o1 h1
  simp only[Option.some.injEq] at h;subst h
  have e:a.block=W:=hb a.block (by simp)
  have sS:mh ty W w c:=hc.elim (fun hh=>by cases hh.2) id
  have hsh:w.frozen? a=false:=by
   obtain⟨p,q,Vi⟩:=sS.aav
   rcases a with ⟨x,y,z⟩
   simp only at e;subst e;exact Z5 Vi _ _
  simp only[Sem.runT,hsh]
  exact ih _ _ h1 (fun b hm=>hb b (by simp[hm])) (.inr sS)
 |program k ih=>
  intro c o w es h hb hc
  simp only[uK] at h
  simp only[Sem.runT]
  exact ih _ _ h hb hc
 |mark m k ih=>
  intro c o w es h hb hc
  simp only[uK] at h
  split at h<;>try (cases h;done)
  rename_i o1 h1
  simp only[Option.some.injEq] at h;subst h
  simp only[Sem.runT]
  rw[ih _ h1 (fun b hm=>hb b hm) hc]
  simp
 |new o k ih=>intro c o w es h;cases h
 |freeze a n k ih=>intro c o w es h;cases h
 |getObj r k ih=>intro c o w es h;cases h
 |setObj r o k ih=>intro c o w es h;cases h
 |choose q k ih=>intro c o w es h;cases h
 |sys q k ih=>intro c o w es h;cases h
def at0(fr:Frame):Option Frame:=
 match fr.todo with
 | []=>match fr.roundOf with
  |none=>some {fr with mode:= .returning}
  |some _=>none
 | .code .ret::_=>match fr.roundOf with
  |none=>some {fr with mode:= .returning}
  |some _=>none
 | .code .skip::k=>some {fr with todo:=k}
 | .code (.label _)::k=>some {fr with todo:=k}
 | .inBlock _::k=>some {fr with todo:=k}
 | .inScope _::k=>some {fr with todo:=k}
 | .code (.seq a b)::k=>some {fr with todo:= .code a:: .code b::k}
 | .code (.cond c x y)::k=>match fr.eval c with
  | .bool b=>some {fr with todo:= .code (if b then x else y)::k}
  |_=>none
 | .code (.block id body)::k=>some {fr with todo:= .code body:: .inBlock id::k}
 | .code (.loop body)::k=>some {fr with todo:= .code body:: .inLoop body::k}
 | .inLoop body::k=>some {fr with todo:= .code body:: .inLoop body::k}
 | .code (.scope body)::k=>some {fr with todo:= .code body:: .inScope body::k}
 | .code (.exit id)::k=>match exitTo id k with
  |some k'=>some {fr with todo:=k'}
  |none=>none
 | .code (.region _ ops false)::k=>some {fr with todo:= .inRegion ops (List.range ops.size)::k}
 | .inRegion _ []::k=>some {fr with todo:=k}
 | .inRegion ops (i::_)::_=>if ((ops[i]?).map (Region.wanted · (yielded ops fr.tmps))).getD false then none else some (fr.finish undef)
 |_=>none
theorem akX{main:Bool}{fr nH:Frame}{cs:List Frame}(hm:fr.mode= .run)(h:at0 fr=some nH)(w:World):stepG P main (G fr cs) w= .go (G nH cs) w #[]:=by
 rcases fr with ⟨fn,tmps,todo,defers,mode,kind,ro⟩
 simp only at hm;subst hm
 unfold at0 at h
 simp only at h
 split at h
 all_goals try (cases h;done)
 all_goals try (simp only[Option.some.injEq] at h;subst h;simp[G,stepG,stepG.exec];done)
 ·split at h<;>try (cases h;done)
  simp only[Option.some.injEq] at h;subst h;simp[G,stepG,stepG.exec]
 ·split at h<;>try (cases h;done)
  simp only[Option.some.injEq] at h;subst h;simp[G,stepG,stepG.exec]
 ·split at h<;>try (cases h;done)
  rename_i b hb
  simp only[Option.some.injEq] at h;subst h
  simp only[G,stepG,stepG.exec,hb]
 ·split at h<;>try (cases h;done)
  rename_i b hb
  simp only[Option.some.injEq] at h;subst h
  simp[G,stepG,stepG.exec,hb]
 ·split at h<;>try (cases h;done)
  rename_i hw
  simp only[Option.some.injEq] at h;subst h
  simp only[G,stepG,stepG.exec,hw]
  simp
inductive OV where
 |go (fr:Frame) (iB:List Frame)
 |ret (v:Value)
 |aoZ
 |block
abbrev OVs:=Option (OV×List (Nat×Value)×List Event×List Nat)
def uA(P:Program)(fn:FuncId)(es:List Event):List Event:=(seen P fn es.toArray).toList
def U8:CallKind→Bool
 | .early=>true
 |_=>false
def abm(P:Program)(ty:TypeId)(c:Jz)(fr:Frame)(iB:List Frame):OVs:=
 match fr.todo with
 | .inRegion ops (i::_)::_=>bif ((ops[i]?).map (Region.wanted · (yielded ops fr.tmps))).getD false&& !(U8 fr.kind) then (match fr.roundOf,fr.oper? with
  |none,some o=>match uK P ty (execOp fr.eval o) c with
   |some ⟨.ok (.value v),ws,es,bs⟩=>some (.go (fr.finish v) iB,ws,uA P fr.fn es,bs)
   |some ⟨.ok .skip,ws,es,bs⟩=>some (.go (fr.finish undef) iB,ws,uA P fr.fn es,bs)
   |some ⟨.ok (.enter f args),ws,es,bs⟩=>some (.go (Frame.enter P f args .normal) (fr::iB),ws,uA P fr.fn es,bs)
   |some ⟨.ok (.defer d),ws,es,bs⟩=>some (.go ({fr with defers:=d::fr.defers}.finish undef) iB,ws,uA P fr.fn es,bs)
   |some ⟨.halt .blocked,ws,_,bs⟩=>some (.block,ws,[],bs)
   |_=>none
  |_,_=>none) else none
 |_=>none
def azi:Target→Bool
 | .fn .. =>true
 |_=>false
def aot(P:Program)(ty:TypeId)(c:Jz)(fr:Frame)(iB:List Frame):OVs:=
 match fr.defers with
 | []=>match P.funcs[fr.fn]? with
  |some fn=>match uK P ty (results fn fr.tmps) c with
   |some ⟨.ok v,ws,es,bs⟩=>match iB with
    |q::gE=>match fr.kind with
     | .normal=>some (.go (q.finish v) gE,ws,uA P fr.fn es,bs)
     | .deferred=>match q.mode with
      | .returning=>some (.go q gE,ws,uA P fr.fn es,bs)
      |_=>none
     |_=>none
    | []=>match fr.kind with
     | .normal=>some (.ret v,ws,uA P fr.fn es,bs)
     | .deferred=>some (.aoZ,ws,uA P fr.fn es,bs)
     |_=>none
   |_=>none
  |none=>none
 |d::ds=>bif azi d.target then (match uK P ty (invoke d.target d.args) c with
  |some ⟨.ok (.value _),ws,es,bs⟩=>some (.go {fr with defers:=ds} iB,ws,uA P fr.fn es,bs)
  |some ⟨.ok (.enter f args),ws,es,bs⟩=>some (.go (Frame.enter P f args .deferred) ({fr with defers:=ds}::iB),ws,uA P fr.fn es,bs)
  |_=>none) else none
def NN(P:Program)(ty:TypeId)(c:Jz)(fr:Frame)(iB:List Frame):OVs:=
 match fr.mode with
 | .run=>match at0 fr with
  |some nH=>some (.go nH iB,[],[],[])
  |none=>abm P ty c fr iB
 | .returning=>aot P ty c fr iB
 |_=>none
def OV.is(P:Program)(main:Bool)(g:Goroutine)(w w':World)(es:Array Event)(cs:List Frame):OV→Prop
 | .go fr iB=>stepG P main g w= .go (G fr (iB++cs)) w' es
 | .ret v=>(∀c Hh,cs=c::Hh→stepG P main g w= .go (G (c.finish v) Hh) w' es)
 | .aoZ=>(∀c Hh,cs=c::Hh→(c.mode= .returning∨∃ch,c.mode= .panicking [⟨ch,false,true⟩])→stepG P main g w= .go (G c Hh) w' es)
 | .block=>stepG P main g w= .go {g with status:= .blocked} w' es
end Go.L
