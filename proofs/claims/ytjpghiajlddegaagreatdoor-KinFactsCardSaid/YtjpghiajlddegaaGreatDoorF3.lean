/- Part 3 of the proof. -/
import Derived.Test.YtjpghiajlddegaaGreatDoorF2
import Derived.Conc.CrowdStepC
import Derived.Conc.Own2
import Derived.Conc.TokenWalk
set_option maxRecDepth 100000
set_option linter.all false
namespace Go.L
open Go Go.Conc
open Go.ConcR (KK wgBlock WgAt stA smA rd wr)
variable {P:Program} {s cs iP:List Frame} {f fr od:Frame} {Q:Machine→Outcome→World→Trace→Prop} {ty:TypeId} {main:Bool} {α:Type} {rest l:List Code} {W mL id i p n off pc sz:Nat} {T:Goroutine→St→Prop} {vs ws:List Value} {x:Operand} {xs:Array Operand} {g:Goroutine} {ca args fi:Array Value} {todo:List Nat} {b:ByteArray} {z:Value} {ats at_:Array TypeId} {s':St} {o:Obj} {st sm:Int}
section
variable {ι:Type} {E:ee ι} {L:Nat→Option Obj} {K:Nat→St} {gs:Array Goroutine} {w:World} {t:Trace} {D:List (an ι)} {d0:Nat} {main:Goroutine} {sl:Option (Nat×Nat)}
 {ic n:Nat} {g:Goroutine}
def H8(E:ee ι)(pc:Nat)(K:Nat→St)(w:World)(t:Trace):Prop:=
 (∃sn tm,w.heap[E.Ch]?=some (.chan 0 #[] true sn sn tm))∧¬(K 0).knows E.Ch∧t.act? pc=some (.close E.Ch)∧t.heard pc∧(∀a,NoRelease a t)∧w.os=E.os∧w.output=E.out
theorem Hp(E:ee ι)(pc:Nat):Yo (H8 E pc) where
 grow:=fun K w t u h hu=>⟨h.1,h.2.1,by rw[act?_old (lt_of_act? h.2.2.1)];exact h.2.2.1,(heard_old (lt_of_act? h.2.2.1)).2 h.2.2.2.1,fun a=>(h.2.2.2.2.1 a).app fun op ay=>hu op ay a,h.2.2.2.2.2⟩
 drawn:=fun K w t d h=>h
 le:=fun K w t s h hl=>⟨h.1,by rw[aC];exact fun hk=>h.2.1 (hl.knows hk),h.2.2⟩
 own:=fun K w t s' w' es u h ht hu=>by
  obtain⟨⟨sn,tm,hc⟩,hk,ha,hh,hn,Qd⟩:=h
  have cH:=lt_size hc
  refine⟨⟨sn,tm,by rw[ht.frame _ cH fun ho=>hk (.inr ho)];exact hc⟩,?_,by rw[act?_old (lt_of_act? ha)];exact ha,(heard_old (lt_of_act? ha)).2 hh,fun a=>(hn a).app fun op ay=>hu op ay a,ht.os.trans Qd.1,ht.output.trans Qd.2⟩
  rw[aC]
  rintro(h'|h')
  ·rcases ht.Lz _ h' with h1|h1|h1
   ·omega
   ·exact hk (.inl h1)
   exact hk (.inr h1)
  rcases ht.own _ h' with h1|h1
  ·omega
  exact hk (.inr h1)
theorem YZ{r:an ι}(h1:r.cnt=0)(h4:r.c4=0)(h3:r.c3=0)(h2:r.c2=0)(hc:r≠ .closer):∃q d c,r= .leave q d c:=by
 cases r with
 |leave q d c=>exact⟨q,d,c,rfl⟩
 |closer=>exact absurd rfl hc
 |st k n=>cases k<;>simp[an.cnt,an.c4,an.c3,an.c2] at h1 h4 h3 h2
 |_=>exact absurd h1 (by simp[an.cnt])
theorem AcqAll.known(hA:AcqAll E t D ic)(hn:NoRelease (stA E.Wg) t){u:Trace}(hpc:t.size≤pc){y:MemOp}(hy:(t++u)[pc]?=some y) (hyg:y.g=ic+1) {r:an ι} (hi:D[i]?=some r) (hc:r.cur=true)
 (hp:t.g? p=some (i+1)) (hct:t.counts p):HappensBefore (t++u) p pc:=by
 obtain⟨q,h1,h2,h3,h4⟩:=hA
 obtain⟨x,hx,hxq⟩:=h4 i r hi hc
 have hq:=lt_of_act? h1
 have hqg:=h2
 obtain⟨oq,hoq,hgq⟩:=Option.map_eq_some_iff.1 h2
 have aao:HappensBefore t x q:= .single (.inr ⟨.marked hxq (.inr hx.act) h1 (fun k _ _=>hn k),hx.heard,h3⟩)
 have last:HappensBefore (t++u) q pc:=hb_po (by omega) (by rw[getElem?_append_old hq];exact hoq) hy (hgq.trans hyg.symm)
 have hle:p≤x:=Nat.le_of_not_lt fun cH=>hx.after p cH hp hct
 rcases Nat.lt_or_ge p x with cH|Qx
 ·exact((hb_app u (.trans (.single (.inl ⟨cH,_,hp,hx.g⟩)) aao)).trans last)
 obtain rfl:p=x:=by omega
 exact(hb_app u aao).trans last
def ad4(qc:Nat):an ι→Nat
 | .leave q _ _=>q
 |_=>qc
theorem Inv.close(h:Inv E L K gs w t D 0 (some (ic,.run .leaf,n)) main d0){main':Goroutine}(hm:∀(a a':Goroutine) (w':World),mayWake E.P a=true→(a'.status= .running∨a'.status= .finished)→(∃sn tm,w'.heap[E.Ch]?=some (.chan 0 #[] true sn sn tm))→woken E.P a a' w' main=main')
 (hg:gs[ic+1]?=some g):
 ∃lS w' u q,runT E.P (crowd gs w sl) (ic+1)=(.next (crowd lS w' sl),u)∧Lv E.P (jN (t.size+1)) L (fun j=>if j=0 then K 0 else ⟨fun _=>none,[]⟩) lS w' (t++u) q∧lS[0]?=some main'∧Deaf (t++u) 0=d0∧
  H8 E (t.size+1) (fun j=>if j=0 then K 0 else ⟨fun _=>none,[]⟩) w' (t++u)∧k7 D=[]:=by
 obtain⟨hic,GU,zg,⟨gc,Fp,qi⟩,Uk⟩:=h.sy.EP
 obtain rfl:gc=g:=by rw[hg] at Fp;exact(Option.some.inj Fp).symm
 obtain⟨st,sm,ha,nD⟩:=h.sy.cells
 obtain⟨e1,e4,e3,e2,rfl,rfl⟩:=nD.run rfl trivial
 obtain⟨_,hs,hmw,g',bO,q,hq⟩:=qi
 obtain⟨sn,rc,tm,hc⟩:=h.sy.chan
 have avb:=h.sy.bal _ _ _ hc
 subst avb
 have hA:=Uk ⟨_,rfl⟩
 have cH:=(List.getElem?_eq_some_iff.1 hic).1
 have TW:∀k r,D[k]?=some r→k≠ic→∃q d c,r= .leave q d c:=fun k r hk eB=>by
  refine YZ ?_ ?_ ?_ ?_ fun e=>eB (GU k (e▸hk))
  ·have:=uo an.cnt hk;omega
  ·have:=uo an.c4 hk;omega
  ·have:=uo an.c3 hk;omega
  have:=uo an.c2 hk;omega
 have ij:=bO w sn sn tm hc
 have bQ:=runT_crowd_go (P:=E.P) (sl:=sl) (i:=ic+1) hg (by simpa using ij)
 have q1:MemOp.ofEvents (ic+1) gc.frame.fn gc.frame.place #[⟨.obj E.Ch,false,true⟩,⟨.obj E.Ch,true,true⟩]= #[{g:=ic+1,fn:=gc.frame.fn,pos:=gc.frame.place,act:= .access ⟨.obj E.Ch,false,true⟩},{g:=ic+1,fn:=gc.frame.fn,pos:=gc.frame.place,act:= .close E.Ch}]:=by rw[ofEvents_eq];simp[MemAct.ofEvent]
 rw[q1] at bQ
 generalize hu:(#[{g:=ic+1,fn:=gc.frame.fn,pos:=gc.frame.place,act:= .access ⟨.obj E.Ch,false,true⟩},{g:=ic+1,fn:=gc.frame.fn,pos:=gc.frame.place,act:= .close E.Ch}]:Trace)=u at bQ
 have Kq:∀op∈u,op.g=ic+1∧(op.act= .access ⟨.obj E.Ch,false,true⟩∨op.act= .close E.Ch):=by rw[←hu];intro op ay;simp at ay;rcases ay with rfl|rfl<;>simp
 have Xf:∀op∈u,∀x,op.act.touch?=some x→x=⟨.obj E.Ch,false,.atomic⟩:=fun op ay x hx=>by
  rcases(Kq op ay).2 with e|e<;>rw[e] at hx
  ·simp only[MemAct.touch?,if_true,Option.some.injEq] at hx;exact hx.symm
  cases hx
 have Qs:∀op∈u,∀m,op.act≠ .mark m:=fun op ay m=>by rcases(Kq op ay).2 with e|e<;>rw[e]<;>simp
 have aGh:E.Ch <w.heap.size:=lt_size hc
 have tz:(w.heap.setIfInBounds E.Ch (.chan 0 #[] true sn sn tm))[E.Ch]?=some (.chan 0 #[] true sn sn tm):=by simp[aGh]
 have hpc:(t++u)[t.size+1]?=some {g:=ic+1,fn:=gc.frame.fn,pos:=gc.frame.place,act:= .close E.Ch}:=by rw[←hu];simp
 have hle:∀j,((fun j=>if j=0 then K 0 else ⟨fun _=>none,[]⟩) j:St).le (K j):=fun j=>by
  by_cases e:j=0
  ·subst e;exact St.le_refl _
  simp only[if_neg e];exact⟨(K j).rw,by simp,fun b o hb=>(by cases hb)⟩
 have aRL:∀x:Goroutine,(x.status= .running∨x.status= .finished)→woken E.P gc g' {w with heap:=w.heap.setIfInBounds E.Ch (.chan 0 #[] true sn sn tm)} x=x:=fun x hx=>by
  unfold Go.Conc.woken
  split
  ·exact again_running _ hx
  rfl
 have ld:∀i r,D[i]?=some r→i≠ic→jN (t.size+1) (t++u) (i+1):=fun i r hi eB=>by
  obtain⟨x,hx,fM⟩:=h.base.ok i r hi
  obtain⟨qq,d,c,rfl⟩:=TW i r hi eB
  refine⟨by rw[←hu];simp,?_⟩
  cases c with
  |false=>exact .inl ((fM.2.2.2.2 rfl).other fun op ay=>by rw[(Kq op ay).1];omega)
  |true=>
   refine .inr fun p hp hct=>?_
   obtain⟨op,ho,hgo⟩:=Option.map_eq_some_iff.1 hp
   rcases getElem?_append_cases ho with ⟨TY,_⟩| ⟨_,jH⟩
   ·exact hA.known (h.sy.norel _) (Nat.le_succ _) hpc rfl hi rfl (by rw[←g?_old (u:=u) TY];exact hp) ((counts_old TY).1 hct)
   rw[(Kq op jH).1] at hgo;omega
 refine⟨_,_,u,D.map (ad4 q),bQ,⟨?_,by simp[h.base.size],fun k x hk=>?_,fun i b hi hk=>?_,fun op ay=>?_⟩,?_,?_,⟨⟨sn,tm,tz⟩,h.sy.kC 0,?_,?_,fun a=>(h.sy.norel a).app fun op ay=>Qs op ay _,h.base.same.1,h.base.same.2⟩,?_⟩
 ·refine(h.base.fit.beside E.Ch (ic+1) h.sy.kC h.sy.lC aGh (by simp) (fun b hb _=>by simp[Ne.symm hb]) (fun op ay=>(Kq op ay).1) fun op ay x hx=>?_).le hle
  obtain rfl:=Xf op ay x hx
  refine⟨rfl,fun sd p a u3 hc=>h.sy.plain _ (.inr ⟨ic,_,rfl,hic,rfl⟩) p a u3 (.inr (by rw[hc.1];rfl)) ?_⟩
  rcases hc.2.2.2 with h3|h3|h3
  ·exact h3
  ·cases h3
  cases h3.2.2
 ·rw[List.getElem?_map] at hk
  obtain⟨r,hr,rfl⟩:=Option.map_eq_some_iff.1 hk
  by_cases eB:k=ic
  ·subst eB
   rw[hic] at hr
   cases hr
   refine⟨g',0,by simp[h.base.size,cH],hq,by rw[gG _ _ _ Qs];exact zg,by rw[←hu];simp,.inr fun p hp hct=>?_⟩
   obtain⟨op,ho,hgo⟩:=Option.map_eq_some_iff.1 hp
   rcases Nat.lt_or_ge p (t.size+1) with TY|Qx
   ·exact hb_po TY ho hpc hgo
   have hpe:p=t.size+1:=by
    have:=lt_size ho
    rw[←hu] at this
    simp at this
    omega
   subst hpe
   obtain⟨y,hy,_⟩:=hct
   obtain⟨o',Fi,mA⟩:=touch_of hy
   rw[hpc] at Fi;cases Fi
   cases mA
  obtain⟨x,hx,fM⟩:=h.base.ok k r hr
  have bR:=ld k r hr eB
  obtain⟨qq,d,c,rfl⟩:=TW k r hr eB
  exact⟨x,d,by rw[gI (by omega) hx,aRL x fM.2.1.status],fM.2.1,by rw[gG _ _ _ Qs];exact fM.2.2.1,bR⟩
 ·simp only[if_neg hi] at hk
  rcases hk with hk| ⟨o,ho⟩
  ·exact hk rfl
  cases ho
 ·rw[Array.size_setIfInBounds,Array.size_map]
  rcases Array.mem_append.1 ay with h'|h'
  ·exact h.base.ops op h'
  rw[(Kq op h').1,h.base.size];omega
 ·rw[gI (by omega) h.main,hm _ _ _ hmw hq.status ⟨sn,tm,tz⟩]
 ·rw[gG _ _ _ Qs];exact h.deaf
 ·rw[act?_of hpc]
 ·refine⟨ic+1,by simp[Trace.g?,hpc],?_⟩
  have e2:t++u=(t++ #[({g:=ic+1,fn:=gc.frame.fn,pos:=gc.frame.place,act:= .access ⟨.obj E.Ch,false,true⟩}:MemOp)])++ #[({g:=ic+1,fn:=gc.frame.fn,pos:=gc.frame.place,act:= .close E.Ch}:MemOp)]:=by rw[←hu,Array.append_assoc];rfl
  have e3:=gG t (ic+1) #[({g:=ic+1,fn:=gc.frame.fn,pos:=gc.frame.place,act:= .access ⟨.obj E.Ch,false,true⟩}:MemOp)] (by intro op ay m;simp only[List.mem_toArray,List.mem_singleton] at ay;subst ay;simp)
  rw[e2,deaf_old (by simp)]
  unfold Deaf at e3 zg
  rw[Array.size_append] at e3
  exact e3.trans zg
 unfold k7
 rw[List.filterMap_eq_nil_iff]
 intro r hr
 obtain⟨k,hk⟩:=List.getElem?_of_mem hr
 by_cases eB:k=ic
 ·subst eB;rw[hic] at hk;cases hk;rfl
 obtain⟨qq,d,c,rfl⟩:=TW k r hk eB;rfl
end
section
variable {ι:Type} {E:ee ι} {L:Nat→Option Obj} {K:Nat→St} {gs:Array Goroutine} {w w':World} {t u:Trace} {D:List (an ι)} {pend d0:Nat} {cl:Ai} {main:Goroutine} {sl:Option (Nat×Nat)}
 {i:Nat} {g g':Goroutine} {es:Array Event}
def PLt(mx:Nat):List (an ι)×Ai→List (an ι)×Ai→Prop:=Prod.Lex (One uL) (InvImage EV (nS mx))
theorem PLt.wf(mx:Nat):WellFounded (PLt (ι:=ι) mx):=(Prod.lex ⟨_,One.wf uL.wf⟩ ⟨_,InvImage.wf (nS mx) EV.wf⟩).wf
theorem Inv.other(h:Inv E L K gs w t D pend cl main d0)(hm:iv E main)(hg:gs[i+1]?=some g) (hs:g.status= .running) (Fj:D[i]?≠some (.back .leaf)) (DG:∀n,cl≠some (i,.run .leaf,n))
 (hw:(∃o,D[i]?=some (.work o .leaf))→main.status= .running):
 ∃K' lS w' u D' cl',runT E.P (crowd gs w sl) (i+1)=(.next (crowd lS w' sl),u)∧Inv E L K' lS w' (t++u) D' pend cl' main d0∧K' 0=K 0∧k7 D'=k7 D∧cl'.isSome=cl.isSome∧PLt E.max (D',cl') (D,cl)∧∀o,an.ig o∈D'→an.ig o∈D∨main.status= .running:=by
 have cH:i <D.length:=by have:=lt_size hg;have:=h.base.size;omega
 have hD:D[i]?=some D[i]:=List.getElem?_eq_getElem cH
 have fin:qY E L K D pend cl main d0 (crowd gs w sl) sl t (i+1)→
  ∃K' lS w' u D' cl',runT E.P (crowd gs w sl) (i+1)=(.next (crowd lS w' sl),u)∧Inv E L K' lS w' (t++u) D' pend cl' main d0∧K' 0=K 0∧k7 D'=k7 D∧cl'.isSome=cl.isSome∧PLt E.max (D',cl') (D,cl)∧∀o,an.ig o∈D'→an.ig o∈D∨main.status= .running:=by
  rintro⟨K',lS,w',u,D',cl',h1,h2,h3,h4,h5,h6,h7,h8⟩
  refine⟨K',lS,w',u,D',cl',h1,h2,h3,h4,?_,Prod.Lex.left _ _ h5,h8⟩
  cases hc:cl with
  |none=>rw[h6 hc]
  |some x=>have:=h7 (by rw[hc];simp);cases cl'<;>simp_all
 obtain⟨x,hx,fM⟩:=h.base.ok i _ hD
 obtain rfl:x=g:=by rw[hg] at hx;exact(Option.some.inj hx).symm
 generalize hr:D[i]=r at hD fM
 match r,hD,fM with
 | .leave q d c,hD,fM=>exact fin (h.leave hm hD hg hs)
 | .work o (.node f),hD,fM=>exact fin (h.work hm hD hg)
 | .work o .leaf,hD,fM=>exact fin (h.YS (hw ⟨o,hD⟩) hD hg)
 | .ig o,hD,⟨_,vy,qM,v,zs,X,Y,e,_⟩=>rw[e] at hs;cases hs
 | .back (.node f),hD,fM=>exact fin (h.back hm hD hg)
 | .back .leaf,hD,fM=>exact absurd hD Fj
 | .st k (n+1),hD,fM=>exact fin (h.arc hm hD hg)
 | .st .r0 0,hD,fM=>exact fin (h.r0 hm hD hg)
 | .st .k1 0,hD,fM=>exact fin (h.k1 hm hD hg)
 | .st .d1 0,hD,fM=>exact fin (h.d1 hm hD hg)
 | .st .d2 0,hD,fM=>exact fin (h.d2 hm hD hg)
 | .st .d3 0,hD,fM=>exact fin (h.d3 hm hD hg)
 | .st .d4 0,hD,fM=>exact fin (h.d4 hm hD hg)
 | .closer,hD,fM=>
  have jI:=h.sy.EP
  match cl,h,jI,DG with
  |none,h,jI,_=>exact(jI _ (List.mem_of_getElem? hD)).elim
  |some (ic,c,n),h,⟨_,hu,_,_,_⟩,DG=>
   have e:=hu i hD
   subst e
   obtain⟨K',lS,w',u,c',n',h1,h2,h3,h4⟩:=h.closer (sl:=sl) hm hg hs fun e=>DG n (by rw[e])
   exact⟨K',lS,w',u,D,_,h1,h2,h3,rfl,rfl,Prod.Lex.right _ h4,fun _ h=> .inl h⟩
theorem Inv.awake(h:Inv E L K gs w t D pend cl main d0)(hm:iv E main):∀x∈gs,Go.Conc.awake x:=by
 intro x hx
 obtain⟨j,hj,rfl⟩:=Array.mem_iff_getElem.1 hx
 have hj':gs[j]?=some gs[j]:=Array.getElem?_eq_getElem hj
 intro k
 cases j with
 |zero=>
  rw[h.main] at hj'
  rw[←Option.some.inj hj']
  rcases hm with e| ⟨m,z,rfl⟩
  ·rw[e];simp
  simp[parked]
 |succ j=>
  have cH:j <D.length:=by have:=h.base.size;omega
  have hD:D[j]?=some D[j]:=List.getElem?_eq_getElem cH
  obtain⟨y,hy,fM⟩:=h.base.ok j _ hD
  rw[hj'] at hy
  rw[Option.some.inj hy]
  by_cases hb:∃o,D[j]= .ig o
  ·obtain⟨o,e⟩:=hb
   rw[e] at fM
   obtain⟨_,vy,qM,v,zs,X,Y,rfl,_⟩:=fM
   simp[parked]
  by_cases hc:D[j]= .closer
  ·have jI:=h.sy.EP
   match cl,jI with
   |none,jI=>
    have:=jI D[j] (List.mem_of_getElem? hD)
    rw[hc] at this
    exact this.elim
   |some (ic,c,n),⟨_,h2,_,⟨gc,Fp,qi⟩,_⟩=>
    have e:=h2 j (by rw[hD,hc])
    subst e
    rw[hj',hy] at Fp
    obtain rfl:=Option.some.inj Fp
    by_cases af4:c= .blk
    ·subst af4
     obtain⟨_,vy,apk,e⟩:=qi
     rw[e];simp
    rw[CK.uJ qi af4];simp
  rcases fM.running (fun o e=>hb ⟨o,e⟩) hc with e|e<;>rw[e]<;>simp
theorem Inv.le0(h:Inv E L K gs w t D pend cl main d0){s:St}(hl:s.le (K 0)):Inv E L (gk K 0 s) gs w t D pend cl main d0:=by
 have hle:∀j,(gk K 0 s j).le (K j):=fun j=>by
  by_cases e:j=0
  ·subst e;rw[aC];exact hl
  rw[aG _ _ e];exact St.le_refl _
 refine⟨⟨h.base.fit.le hle,h.base.size,fun k r hk=>?_,fun k hk b hb=>h.base.far k hk b ((hle k).knows hb),h.base.ops,h.base.same⟩,
  ⟨fun j hj=>h.sy.kW j ((hle j).knows hj),fun j hj=>h.sy.kC j ((hle j).knows hj),h.sy.lW,h.sy.lC,h.sy.ne,h.sy.norel,h.sy.plain,h.sy.said,h.sy.cells,h.sy.Ci,h.sy.chan,h.sy.bal,?_⟩,h.main,h.deaf⟩
 ·rw[aG _ _ (by omega)];exact h.base.ok k r hk
 have jI:=h.sy.EP
 match cl,jI with
 |none,jI=>exact jI
 |some (ic,c,n),⟨h1,h2,h3,⟨gc,Fp,qi⟩,h5⟩=>exact⟨h1,h2,h3,⟨gc,Fp,by rw[aG _ _ (by omega)];exact qi⟩,h5⟩
def TC(E:ee ι)(L:Nat→Option Obj)(Q:Machine→Outcome→World→Trace→Prop)(pend:Nat)(b:Bool)(os:List ι)(d0:Nat)(g:Goroutine)(s:St):Prop:=
 ∀K gs w t D cl sl,cl.isSome=b→Inv E L K gs w t D pend cl g d0→k7 D=os→s.le (K 0)→Ends E.P Q (crowd gs w sl) t
theorem xm{b:Bool}{os:List ι}{s:St}(hs:g.status= .running)
 (h:∀K gs w t D cl sl m,cl.isSome=b→Inv E L K gs w t D pend cl g d0→k7 D=os→K 0=s→stepT E.P m=runT E.P (crowd gs w sl) 0→Ends E.P Q m t)
 (iZ:b=true→pend=0∧d0=0∧(os=[]→∀pc,TL E.P (jN pc) L (H8 E pc) Q g s)):TC E L Q pend b os d0 g s:=by
 intro K gs w t D cl sl hb hI ho hle
 have key:∀μ:List (an ι)×Ai,∀K gs w t sl,μ.2.isSome=b→Inv E L K gs w t μ.1 pend μ.2 g d0→k7 μ.1=os→K 0=s→Ends E.P Q (crowd gs w sl) t:=by
  intro μ
  induction μ using (PLt.wf E.max).induction with
  |_ μ ih=>
   obtain⟨D,cl⟩:=μ
   intro K gs w t sl hb hI ho hK
   simp only at hb hI ho
   obtain⟨i,fJ,d,RI,db,GV,bO⟩:=crowd_pick (P:=E.P) (gs:=gs) (w:=w) (sl:=sl) (hI.awake (.inl hs)) ⟨0,g,hI.main,hs⟩
   have zi:=hI.at d
   cases i with
   |zero=>exact h K gs _ t D cl RI _ hb zi ho hK bO
   |succ i=>
    by_cases Xy:D[i]?=some (.back .leaf)
    ·obtain⟨n,h1,h2,h3⟩:=hI.norm Xy
     exact ih (_,cl) (Prod.Lex.left _ _ h3) _ gs w t sl hb h1 (h2.trans ho) (by rw[aG _ _ (by omega)];exact hK)
    by_cases hc:∃n,cl=some (i,.run .leaf,n)
    ·obtain⟨n,e⟩:=hc
     subst e
     obtain⟨hp,hd,hT⟩:=iZ (by rw[←hb];rfl)
     subst hp
     obtain⟨lS,w',u,q,hr,hL,h0,hdd,hG,tN⟩:=zi.close (sl:=RI) (main':=g) (fun a a' w' _ _ _=>by
      unfold Go.Conc.woken
      split
      ·exact again_running _ (.inl hs)
      rfl) db
     exact Ends.next (bO.trans hr) (hT (ho.symm.trans tN) (t.size+1) _ lS w' _ q RI hL h0 (by simp only[if_true];rw[hK];exact St.le_refl _) (by rw[hdd];exact hd) hG)
    obtain⟨K',lS,w',u,D',cl',hr,M7,mg,Ij,gV,cH,_⟩:=zi.other (sl:=RI) (.inl hs) db GV Xy (fun n e=>hc ⟨n,e⟩) (fun _=>hs)
    exact Ends.next (bO.trans hr) (ih (D',cl') cH K' lS w' _ RI (gV.trans hb) M7 (Ij.trans ho) (mg.trans hK))
 exact key (D,cl) _ gs w t sl hb (hI.le0 hle) ho (aC _ _ _)
end
section
variable {ι:Type} {E:ee ι} {L:Nat→Option Obj} {Q:Machine→Outcome→World→Trace→Prop} {g:Goroutine} {s:St}
theorem VJ(Un:L E.Ch=none){x:Goroutine}(hx:x.status= .running)(bO:∀w,aQ s w→stepG E.P true x w= .comm g #[rcase E.Ch z] true (.recv true) w #[])
 (nG:∀w,aQ s w→(∀b o,L b=some o→w.heap[b]?=some o)→aQ s' w) (Af:∀b,s'.knows b→L b≠none∨s.knows b)
 (hT:TL E.P eR (fun _=>none) (Calm E.os E.out) Q (Conc.served g (.tuple #[z,.bool false])) s'):TL E.P (jN pc) L (H8 E pc) Q x s:=by
 refine Ll (QN pc) (Hp E pc) hx fun K gs w t q sl m hL h0 hK hd hG hm _=>?_
 subst hK
 obtain⟨⟨sn,tm,hc⟩,hkC,ams,auA,aCu,aeQ⟩:=hG
 have Kt:partners (gs.setIfInBounds 0 ph) E.Ch true=[]:=partners_nil fun j y hy=>by
  rcases getElem?_stand gs _ _ _ hy with ⟨_,rfl⟩| ⟨hj,ZK⟩
  ·exact offersAt_ph _ _
  cases j with
  |zero=>exact absurd rfl hj
  |succ j=>
   have cH:j <q.length:=by have:=lt_size ZK;have:=hL.size;omega
   obtain⟨y',d,hy2,hq,_⟩:=hL.ok j _ (List.getElem?_eq_getElem cH)
   rw[ZK] at hy2
   rw[Option.some.inj hy2]
   exact rD hq.status _ _
 have bQ:=crowd_recv_closed (sl:=sl) h0 (by simpa using bO w (hL.fit.ki 0)) hc Kt
 have e0:MemOp.ofEvents 0 x.frame.fn x.frame.place #[]= #[]:=rfl
 rw[e0,Array.empty_append] at bQ
 generalize hu:(#[{g:=0,fn:=g.frame.fn,pos:=g.frame.place,act:= .recvClosed E.Ch}]:Trace)=u at bQ
 have Kq:∀op∈u,op.g=0∧op.act= .recvClosed E.Ch:=by rw[←hu];intro op ay;simp at ay;subst ay;exact⟨rfl,rfl⟩
 have Xf:∀op∈u,op.act.touch?=none:=fun op ay=>by rw[(Kq op ay).2];rfl
 have Qs:∀op∈u,∀m,op.act≠ .mark m:=fun op ay m=>by rw[(Kq op ay).2];simp
 have hr:(t++u)[t.size]?=some {g:=0,fn:=g.frame.fn,pos:=g.frame.place,act:= .recvClosed E.Ch}:=by rw[←hu];simp
 have apa:=lt_of_act? ams
 have aao:HappensBefore (t++u) pc t.size:= .single (.inr ⟨.closed (c:=E.Ch) (by rw[act?_old apa];exact ams) (by rw[act?_of hr]),(heard_old apa).2 auA,⟨0,by simp[Trace.g?,hr],by rw[deaf_old (Nat.le_refl _)];exact hd⟩⟩)
 have dC:∀i n,q[i]?=some n→eR (t++u) (i+1):=fun i n hi=>by
  obtain⟨y,d,hy,hq,hdd,hk⟩:=hL.ok i n hi
  rcases hk.2 with hk|hk
  ·exact hk.quiet Xf
  intro p hp hct
  obtain⟨op,ho,hgo⟩:=Option.map_eq_some_iff.1 hp
  rcases getElem?_append_cases ho with ⟨TY,_⟩| ⟨_,jH⟩
  ·exact⟨t.size,by simp[Trace.g?,hr],(hb_app u (hk p (by rw[←g?_old (u:=u) TY];exact hp) ((counts_old TY).1 hct))).trans aao⟩
  rw[(Kq op jH).1] at hgo;omega
 have pX:=hL.fit.quiet (u:=u) (w':=w) E.Ch (fun j=>by
  by_cases e:j=0
  ·subst e;exact hkC
  exact hL.none j _ e) Un (Nat.le_refl _) (fun _ _ _=>rfl) Xf
 refine Ends.next (hm.trans bQ) (hT (gk K 0 s') _ w _ q sl ⟨?_,by simp[hL.size],fun i n hi=>?_,fun i b hi hk=>?_,fun op ay=>?_⟩ ?_ (by rw[aC];exact St.le_refl _) (by rw[gG _ _ _ Qs];exact hd) ⟨fun a=>(aCu a).app fun op ay=>Qs op ay _,aeQ⟩)
 ·refine pX.alone (i:=0) (fun j hj b=>hL.none j b hj) s' (nG w (hL.fit.ki 0) hL.fit.Eo) Af fun b hb p y hy Qj hyb=>?_
  obtain⟨op,ho,hyo⟩:=touch_of hy
  have cH:op.g <gs.size:=by
   rcases Array.mem_append.1 (mem_of_getElem? ho) with h'|h'
   ·exact hL.ops op h'
   rw[(Kq op h').1,hL.size];omega
  cases hgo:op.g with
  |zero=>have:=knows_own ho;rwa[hgo] at this
  |succ k=>
   have hk:k <q.length:=by have:=hL.size;omega
   obtain⟨j,hj,mZ⟩:=dC k _ (List.getElem?_eq_getElem hk) p (by simp[Trace.g?,ho,hgo]) ⟨y,by simpa [touchAt] using hy,by cases hl:y.loc<;>simp_all[blk,Loc.isMemory],.inl (by rw[Qj];simp)⟩
   obtain⟨z',Et,hzg⟩:=Option.map_eq_some_iff.1 hj
   exact⟨j,z',Et,hzg,.inr mZ⟩
 ·obtain⟨y,d,hy,hq,hdd,hk⟩:=hL.ok i n hi
  exact⟨y,d,by rw[Array.getElem?_setIfInBounds_ne (by omega)];exact hy,hq,by rw[gG _ _ _ Qs];exact hdd,dC i n hi⟩
 ·rw[aG _ _ hi] at hk;exact hL.none i b hi hk
 ·rw[Array.size_setIfInBounds]
  rcases Array.mem_append.1 ay with h'|h'
  ·exact hL.ops op h'
  rw[(Kq op h').1,hL.size];omega
 have:0 <gs.size:=by rw[hL.size];omega
 simp[this,finishComm_recv,recvd]
end
section
variable {ι:Type} {E:ee ι} {L:Nat→Option Obj} {K:Nat→St} {gs:Array Goroutine} {w w':World} {t:Trace} {D:List (an ι)} {pend d0:Nat} {cl:Ai} {main:Goroutine} {sl:Option (Nat×Nat)}
 {i:Nat} {Q:Machine→Outcome→World→Trace→Prop} {g:Goroutine} {s:St}
theorem setChan_at(w:World)(d c:Nat)(h:c <w.heap.size)(sn rc:Nat)(tm:Bool):
 ((w.at d).setChan c 0 #[] false sn rc tm).heap[c]?=some (.chan 0 #[] false sn rc tm)∧((w.at d).setChan c 0 #[] false sn rc tm).heap.size=w.heap.size∧
 ∀b,b≠c→((w.at d).setChan c 0 #[] false sn rc tm).heap[b]?=w.heap[b]?:=by
 refine⟨by simp[World.setChan,World.at,h],by simp[World.setChan,World.at],fun b hb=>by simp[World.setChan,World.at,Ne.symm hb]⟩
theorem Inv.alive(h:Inv E L K gs w t D 0 cl main d0)(iZ:cl≠none)(hn:∀o,an.ig o∉D):∃(i:Nat) (x:Goroutine),gs[i]?=some x∧x.status= .running:=by
 by_cases dC:∀r∈D,r.left=true∨r= .closer
 ·have jI:=h.sy.EP
  obtain⟨st,sm,_,nD⟩:=h.sy.cells
  match cl,jI,nD,iZ with
  |some (ic,c,n),⟨_,_,_,⟨gc,Fp,qi⟩,_⟩,nD,_=>
   refine⟨_,gc,Fp,CK.uJ qi fun e=>?_⟩
   subst e
   have z:∀(f:an ι→Nat),(∀q d c,f (.leave q d c)=0)→f .closer=0→fO f D=0:=fun f h1 h2=>by
    unfold fO
    rw[List.sum_eq_zero_iff_forall_eq_nat]
    intro x hx
    obtain⟨r,hr,rfl⟩:=List.mem_map.1 hx
    rcases dC r hr with e|rfl
    ·cases r<;>first|exact h1 _ _ _|cases e
    exact h2
   have z1:=z an.cnt (fun _ _ _=>rfl) rfl
   have z4:=z an.c4 (fun _ _ _=>rfl) rfl
   have z3:=z an.c3 (fun _ _ _=>rfl) rfl
   have z2:=z an.c2 (fun _ _ _=>rfl) rfl
   rw[z1,z4,z3,z2] at nD
   simp only[Option.map_some] at nD
   generalize ho:some CK.blk=o at nD
   generalize h0:0+0=k at nD
   cases nD with
   |reg _ h2=>omega
   |sema _ h2=>cases ho;exact h2 rfl
   |over h1=>cases ho;exact h1.elim
   |_=>cases ho
 obtain⟨r,mB⟩:=Classical.not_forall.1 dC
 obtain⟨hr,DL⟩:=Classical.not_imp.1 mB
 have h1:¬r.left=true:=fun e=>DL (.inl e)
 have h2:r≠ .closer:=fun e=>DL (.inr e)
 obtain⟨k,hk⟩:=List.getElem?_of_mem hr
 obtain⟨x,hx,fM⟩:=h.base.ok k r hk
 refine⟨_,x,hx,?_⟩
 cases r with
 |leave q d c=>exact absurd rfl h1
 |work o tr=>exact pd.running (fun _ _ y=>y.1) fM.2
 |ig o=>exact absurd hr (hn o)
 |back tr=>exact pd.running (fun _ _ y=>ee.pure.running (fun _ z=>z.1) y) fM.2
 |st k n=>exact Pure.running (WK.running k) fM.2.2.1
 |closer=>exact absurd rfl h2
theorem Inv.YT(h:Inv E L K gs w t D pend cl (parked g #[rcase E.Ch z] (.recv true)) 0)(iZ:cl≠none){o:ι}{gw:Goroutine}(hi:D[i]?=some (.work o .leaf)) (hg:gs[i+1]?=some gw):
 ∃K' lS w' u D' v X a b,runT E.P (crowd gs w sl) (i+1)=(.next (crowd lS w' sl),u)∧Inv E L K' lS w' (t++u) D' pend cl (Conc.served g (.tuple #[v,.bool true])) 0∧K' 0=⟨(K 0).ro,X++(K 0).rw⟩∧
  E.Vo o v X∧k7 D=a++o::b∧k7 D'=a++b:=by
 obtain⟨fJ,db,fM⟩:=h.base.ok i _ hi
 obtain rfl:fJ=gw:=by rw[hg] at db;exact(Option.some.inj db).symm
 obtain⟨hd,hs,qM,v,zs,X,Y,hXY,oQ,bO,tr,iN,hle,yo⟩:=fM
 obtain⟨sn,rc,tm,hc⟩:=h.sy.chan
 have vu:=h.base.size
 have aQM:partners (gs.setIfInBounds (i+1) ph) E.Ch false=[(0,0)]:=by
  have h0:(gs.setIfInBounds (i+1) ph)[0]?=some (parked g #[rcase E.Ch z] (.recv true)):=stand_get (by omega) h.main
  rw[partners_one h0 fun k x hk hx=>?_]
  ·rw[offersAt_parked_recv];simp
  rcases getElem?_stand gs _ _ _ hx with ⟨_,rfl⟩| ⟨_,mA⟩
  ·exact offersAt_ph _ _
  cases k with
  |zero=>exact absurd rfl hk
  |succ k=>
   rcases h.offers mA with ⟨o',g',v',zs',_,rfl⟩|hn
   ·exact offersAt_parked_send' _ _ _ _ _ _
   exact hn _ _
 have bQ:=crowd_send_meets (sl:=sl) hg (by simpa using bO w (h.base.fit.ki _)) hc (by omega) h.main aQM
 have e0:MemOp.ofEvents (i+1) fJ.frame.fn fJ.frame.place #[]= #[]:=rfl
 rw[e0,Array.empty_append] at bQ
 obtain⟨a,b,ha,hb⟩:=Cb (r':=an.back tr) rfl hi (o:=o) rfl
 have hwc:=setChan_at w w.drawn E.Ch (lt_size hc) (sn+1) (rc+1) tm
 refine⟨_,_,_,_,_,v,X,a,b,bQ,h.meet iZ hi (.inl rfl) hd hXY hle yo (by simp) ?_ ?_ (fun k h1 h2=>?_) hc hwc.1 hwc.2.1 hwc.2.2 ⟨rfl,rfl⟩ ⟨rfl,rfl⟩ ⟨rfl,rfl⟩ ⟨rfl,rfl⟩ ⟨rfl,rfl⟩,aC _ _ _,oQ,ha,hb⟩
 ·rw[Array.getElem?_setIfInBounds_ne (by omega),Array.getElem?_setIfInBounds_self_of_lt (by omega)]
  rw[finishComm_recv];rfl
 ·rw[Array.getElem?_setIfInBounds_self_of_lt (by have:=lt_size hg;simpa using this)]
  rw[finishComm_send]
 rw[Array.getElem?_setIfInBounds_ne (Ne.symm h2),Array.getElem?_setIfInBounds_ne (Ne.symm h1)]
theorem Pq{os:List ι}
 (Ku:∀a o b v X,os=a++o::b→E.Vo o v X→TC E L Q 0 true (a++b) 0 (Conc.served g (.tuple #[v,.bool true])) ⟨s.ro,X++s.rw⟩)
 (qJ:os=[]→∀pc,TL E.P (jN pc) L (H8 E pc) Q {parked g #[rcase E.Ch z] (.recv true) with status:= .running} s):
 ∀(μ:List (an ι)×Ai) K gs w t sl,μ.2.isSome=true→Inv E L K gs w t μ.1 0 μ.2 (parked g #[rcase E.Ch z] (.recv true)) 0→k7 μ.1=os→K 0=s→(∀o,an.ig o∉μ.1)→Ends E.P Q (crowd gs w sl) t:=by
 intro μ
 induction μ using (PLt.wf E.max).induction with
 |_ μ ih=>
  obtain⟨D,cl⟩:=μ
  intro K gs w t sl hb hI ho hK hn
  simp only at hb hI ho hn
  have iZ:cl≠none:=fun e=>by rw[e] at hb;cases hb
  have Qr:iv E (parked g #[rcase E.Ch z] (.recv true)):= .inr ⟨g,z,rfl⟩
  obtain⟨i,fJ,d,RI,db,GV,bO⟩:=crowd_pick (P:=E.P) (gs:=gs) (w:=w) (sl:=sl) (hI.awake Qr) (hI.alive iZ hn)
  have zi:=hI.at d
  cases i with
  |zero=>rw[hI.main] at db;rw[←Option.some.inj db] at GV;cases GV
  |succ i=>
   by_cases Xy:D[i]?=some (.back .leaf)
   ·obtain⟨n,h1,h2,h3⟩:=hI.norm Xy
    refine ih (_,cl) (Prod.Lex.left _ _ h3) _ gs w t sl hb h1 (h2.trans ho) (by rw[aG _ _ (by omega)];exact hK) fun o hm=>?_
    rcases List.mem_or_eq_of_mem_set hm with h'|h'
    ·exact hn o h'
    cases h'
   by_cases hc:∃n,cl=some (i,.run .leaf,n)
   ·obtain⟨n,e⟩:=hc
    subst e
    obtain⟨lS,w',u,q,hr,hL,h0,hdd,hG,tN⟩:=zi.close (sl:=RI) (main':={parked g #[rcase E.Ch z] (.recv true) with status:= .running}) (fun a a' w' hmw nG ⟨sn,tm,tz⟩=>by
     have:(mayWake E.P a&&a'.status != .blocked&&a'.status != .waiting)=true:=by rcases nG with e|e<;>simp[hmw,e]
     unfold Go.Conc.woken
     rw[if_pos this]
     exact again_recv_closed tz) db
    exact Ends.next (bO.trans hr) (qJ (ho.symm.trans tN) (t.size+1) _ lS w' _ q RI hL h0 (by simp only[if_true];rw[hK];exact St.le_refl _) (by rw[hdd]) hG)
   by_cases Ez:∃o,D[i]?=some (.work o .leaf)
   ·obtain⟨o,hi⟩:=Ez
    obtain⟨K',lS,w',u,D',v,X,a,b,hr,M7,mg,oQ,ha,mZ⟩:=zi.YT (sl:=RI) iZ hi db
    refine Ends.next (bO.trans hr) (Ku a o b v X (ho.symm.trans ha) oQ K' lS w' _ D' cl RI hb M7 mZ ?_)
    rw[mg,hK];exact St.le_refl _
   obtain⟨K',lS,w',u,D',cl',hr,M7,mg,Ij,gV,cH,ZQ⟩:=zi.other (sl:=RI) Qr db GV Xy (fun n e=>hc ⟨n,e⟩) (fun hx=>absurd hx Ez)
   refine Ends.next (bO.trans hr) (ih (D',cl') cH K' lS w' _ RI (gV.trans hb) M7 (Ij.trans ho) (mg.trans hK) fun o hm=>?_)
   rcases ZQ o hm with h'|h'
   ·exact hn o h'
   cases h'
theorem VP{os:List ι}(hs:g.status= .running)(bO:∀w,aQ s w→stepG E.P true g w= .comm g #[rcase E.Ch z] true (.recv true) w #[])
 (Ku:∀a o b v X,os=a++o::b→E.Vo o v X→TC E L Q 0 true (a++b) 0 (Conc.served g (.tuple #[v,.bool true])) ⟨s.ro,X++s.rw⟩)
 (qJ:os=[]→∀pc,TL E.P (jN pc) L (H8 E pc) Q g s∧TL E.P (jN pc) L (H8 E pc) Q {parked g #[rcase E.Ch z] (.recv true) with status:= .running} s):TC E L Q 0 true os 0 g s:=by
 refine xm hs (fun K gs w t D cl sl m hb hI ho hK hm=>?_) fun _=>⟨rfl,rfl,fun h pc=>(qJ h pc).1⟩
 have iZ:cl≠none:=fun e=>by rw[e] at hb;cases hb
 obtain⟨sn,rc,tm,hc⟩:=hI.sy.chan
 have hgo:=bO w (hK▸hI.base.fit.ki 0)
 have e0:MemOp.ofEvents 0 g.frame.fn g.frame.place #[]= #[]:=rfl
 by_cases eB:partners (gs.setIfInBounds 0 ph) E.Ch true=[]
 ·have bQ:=crowd_waits (sl:=sl) hI.main (by simpa using hgo) (fun cc u2=>by
   simp only[List.mem_toArray,List.mem_singleton] at u2
   subst u2
   exact ways_recv_none hc eB)
  rw[e0] at bQ
  have vu:=hI.base.size
  refine Ends.next (hm.trans bQ) (Pq Ku (fun h pc=>(qJ h pc).2) (D,cl) K _ w _ sl hb ⟨⟨?_,by simp[vu],fun k r hk=>?_,fun k hk=>hI.base.far k (by simpa using hk),fun op ay=>?_,hI.base.same⟩,?_,?_,?_⟩ ho hK fun o hm=>?_)
  ·rw[Array.append_empty];exact hI.base.fit
  ·obtain⟨x,hx,fM⟩:=hI.base.ok k r hk
   exact⟨x,by rw[Array.getElem?_setIfInBounds_ne (by omega)];exact hx,by rw[Array.append_empty];exact fM⟩
  ·rw[Array.append_empty] at ay;rw[Array.size_setIfInBounds];exact hI.base.ops op ay
  ·rw[Array.append_empty]
   refine⟨hI.sy.kW,hI.sy.kC,hI.sy.lW,hI.sy.lC,hI.sy.ne,hI.sy.norel,hI.sy.plain,hI.sy.said,hI.sy.cells,hI.sy.Ci,hI.sy.chan,hI.sy.bal,?_⟩
   have jI:=hI.sy.EP
   match cl,jI with
   |none,jI=>exact jI
   |some (ic,c,n),⟨h1,h2,h3,⟨gc,Fp,qi⟩,h5⟩=>exact⟨h1,h2,h3,⟨gc,by rw[Array.getElem?_setIfInBounds_ne (by omega)];exact Fp,qi⟩,h5⟩
  ·rw[Array.getElem?_setIfInBounds_self_of_lt (by omega)]
  ·rw[Array.append_empty];exact hI.deaf
  obtain⟨k,hk⟩:=List.getElem?_of_mem hm
  obtain⟨x,hx,_,vy,qM,v,zs,X,Y,rfl,_⟩:=hI.base.ok k _ hk
  have:((k+1,0):Nat×Nat)∈partners (gs.setIfInBounds 0 ph) E.Ch true:=mem_partners.2 ⟨_,stand_get (by omega) hx,by rw[offersAt_parked_send];simp⟩
  rw[eB] at this;cases this
 obtain⟨j,gj,vj,zj,shj,d,hj0,hj,bQ⟩:=crowd_recv_meets_some (sl:=sl) hI.main (by simpa using hgo) hc eB fun j k Ob=>by
  obtain⟨x,hx,hk⟩:=mem_partners.1 Ob
  rcases getElem?_stand gs _ _ _ hx with ⟨_,rfl⟩| ⟨hj0,mA⟩
  ·rw[offersAt_ph] at hk;cases hk
  cases j with
  |zero=>exact absurd rfl hj0
  |succ j=>
   rcases hI.offers mA with ⟨o',g',v',zs',_,rfl⟩|hn
   ·rw[offersAt_parked_send] at hk
    simp at hk
    exact⟨hk,by omega,_,_,_,_,mA⟩
   rw[hn] at hk;cases hk
 rw[e0,Array.empty_append] at bQ
 cases j with
 |zero=>exact absurd rfl hj0
 |succ i=>
  rcases hI.offers hj with ⟨o,qM,v,zs,hi,e⟩|hn
  ·obtain⟨x,hx,zg,vy,aGo,v',zs',X,Y,e',hXY,oQ,_,tr,iN,hle,yo⟩:=hI.base.ok i _ hi
   obtain rfl:x=parked gj #[scase E.Ch vj zj] shj:=by rw[hj] at hx;exact(Option.some.inj hx).symm
   have hv:vj=v':=by
    have:=congrArg Goroutine.offers e'
    simp only[parked,scase,Option.some.injEq,Prod.mk.injEq,Array.mk.injEq,List.cons.injEq,CommCase.mk.injEq] at this
    exact this.1.1.2.1
   have hsv:gj.finishComm E.P #[scase E.Ch vj zj] shj 0 undef false=Conc.served aGo undef:=by
    have h1:shj= .send:=by
     have:=congrArg Goroutine.offers e'
     simp only[parked,Option.some.injEq,Prod.mk.injEq] at this
     exact this.2
    subst h1
    rw[finishComm_send]
    have h2:=congrArg (fun x:Goroutine=>Conc.served x undef) e'
    exact h2
   subst hv
   obtain⟨a,b,ha,mZ⟩:=Cb (r':=an.back tr) rfl hi (o:=o) rfl
   have hwc:=setChan_at w d E.Ch (lt_size hc) (sn+1) (rc+1) tm
   have vu:=hI.base.size
   refine Ends.next (hm.trans bQ) (Ku a o b vj X (ho.symm.trans ha) oQ _ _ _ _ (D.set i (.back tr)) cl sl hb
    (hI.meet iZ hi (.inr rfl) zg hXY hle yo (by simp) ?_ ?_ (fun k h1 h2=>?_) hc hwc.1 hwc.2.1 hwc.2.2 ⟨rfl,rfl⟩ ⟨rfl,rfl⟩ ⟨rfl,rfl⟩ ⟨rfl,rfl⟩ ⟨rfl,rfl⟩) mZ ?_)
   ·rw[Array.getElem?_setIfInBounds_self_of_lt (by simp;omega),finishComm_recv];rfl
   ·rw[Array.getElem?_setIfInBounds_ne (by omega),Array.getElem?_setIfInBounds_self_of_lt (lt_size hj),hsv]
   ·rw[Array.getElem?_setIfInBounds_ne (Ne.symm h1),Array.getElem?_setIfInBounds_ne (Ne.symm h2)]
   rw[aC,hK];exact St.le_refl _
  have:(0:Nat)∈offersAt (parked gj #[scase E.Ch vj zj] shj) E.Ch true:=by rw[offersAt_parked_send];simp
  rw[hn] at this;cases this
end
section
variable {ι:Type} {E:ee ι} {L:Nat→Option Obj} {K:Nat→St} {gs:Array Goroutine} {w w':World} {t:Trace} {D:List (an ι)} {pend d0:Nat} {cl:Ai} {sl:Option (Nat×Nat)}
 {Q:Machine→Outcome→World→Trace→Prop} {g g':Goroutine} {s:St} {es:Array Event}
theorem Inv.go0(h:Inv E L K gs w t D pend cl g d0)(hgo:stepG E.P true g w= .go g' w' es)(Qd:Vp w w')(cd:¬s'.knows E.Wg)(pe:¬s'.knows E.Ch)(vL:w'.heap[E.Ch]?=w.heap[E.Ch]?)
 (pX:Fit L (gk K 0 s') w' (t++MemOp.ofEvents 0 g.frame.fn g.frame.place es))
 (lK:∀op∈MemOp.ofEvents 0 g.frame.fn g.frame.place es,∀x,op.act.touch?=some x→E.At x→x.kind≠ .plain∧(x.kind= .said→cl=none))
 (iQ:∀op∈MemOp.ofEvents 0 g.frame.fn g.frame.place es,∀a,op.act≠ .mark (.release a)) 
 (n7:∀cl',zx cl cl'→∃st sm,WgAt E.ty E.Wg w' st sm∧Md E.max (fO an.cnt D+mL) (fO an.c4 D) (fO an.c3 D) (fO an.c2 D) (cl'.map (·.2.1)) st sm) (Qq:fO an.cnt D+mL≤E.max):
 ∃lS u cl',runT E.P (crowd gs w sl) 0=(.next (crowd lS w' sl),u)∧Inv E L (gk K 0 s') lS w' (t++u) D mL cl' g' (deafBehind d0 es)∧cl'.isSome=cl.isSome:=by
 have Kq:∀op∈MemOp.ofEvents 0 g.frame.fn g.frame.place es,op.g=0:=fun op ay=>Go.ConcR.g_of_ofEvents op ay
 have bQ:=runT_crowd_go (P:=E.P) (sl:=sl) (i:=0) h.main (by simpa using hgo)
 have hdo:Deaf (t++MemOp.ofEvents 0 g.frame.fn g.frame.place es) 0=deafBehind d0 es:=by rw[Deaf_own,h.deaf]
 generalize MemOp.ofEvents 0 g.frame.fn g.frame.place es=u at*
 obtain⟨sn,rc,tm,hc⟩:=h.sy.chan
 have tz:w'.heap[E.Ch]?=some (.chan 0 #[] false sn rc tm):=by rw[vL];exact hc
 have eB:∀k,∀op∈u,op.g≠k+1:=fun k op ay=>by rw[Kq op ay];omega
 have Ip:∀b,¬s'.knows b→(∀j,¬(K j).knows b)→∀j,¬(gk K 0 s' j).knows b:=fun b h1 h2 j=>by
  by_cases e:j=0
  ·subst e;rw[aC];exact h1
  rw[aG _ _ e];exact h2 j
 obtain⟨cl',Ez,jI⟩:∃cl',zx cl cl'∧aiR E (gk K 0 s') ((gs.map (woken E.P g g' w')).setIfInBounds 0 g') (t++u) D cl':=by
  have jI:=h.sy.EP
  match cl,jI with
  |none,jI=>exact⟨none,.same _,jI⟩
  |some (ic,c,n),⟨h1,h2,h3,⟨gc,Fp,qi⟩,h5⟩=>
   obtain⟨c',n',hw,ave,_,hdc⟩:=CK.tries (ic:=ic) qi g g' w'
   refine⟨some (ic,c',n'),hw,h1,h2,by rw[iE _ _ (eB ic),hdc];exact h3,⟨_,gI (by omega) Fp,by rw[aG _ _ (by omega)];exact ave⟩,fun⟨tr,e⟩=>?_⟩
   subst e
   cases hw with
   |same=>
    obtain⟨q,a1,a2,a3,a4⟩:=h5 ⟨tr,rfl⟩
    have hq:=lt_of_act? a1
    exact⟨q,by rw[act?_old hq];exact a1,by rw[g?_old hq];exact a2,(heard_old hq).2 a3,fun i r hi hcu=>let ⟨p,hp,Xg⟩:=a4 i r hi hcu;⟨p,RelBy.other hp (eB i),Xg⟩⟩
 refine⟨_,u,cl',bQ,⟨⟨pX,by simp[h.base.size],fun k r hk=>?_,fun k hk b hb=>?_,fun op ay=>?_,⟨Qd.1.trans h.base.same.1,Qd.2.trans h.base.same.2⟩⟩,
  ⟨Ip _ cd h.sy.kW,Ip _ pe h.sy.kC,h.sy.lW,h.sy.lC,h.sy.ne,fun a=>(h.sy.norel a).app fun op ay=>iQ op ay a,fun j hj p x hx hb hk=>?_,?_,n7 cl' Ez,Qq,⟨sn,rc,tm,tz⟩,fun a b c hx=>h.sy.bal a b c (by rw[←vL];exact hx),jI⟩,?_,hdo⟩,by cases Ez<;>rfl⟩
 ·obtain⟨x,hx,fM⟩:=h.base.ok k r hk
  rw[aG _ _ (by omega)]
  have ZV:=fM.other (eB k)
  by_cases R3:r= .closer
  ·subst R3;exact⟨_,gI (by omega) hx,trivial⟩
  exact⟨x,by rw[gI (by omega) hx,fM.woken R3 fun _=>⟨sn,rc,tm,tz⟩],ZV⟩
 ·rw[Array.size_setIfInBounds,Array.size_map] at hk
  have:=h.base.size
  rw[aG _ _ (by omega)] at hb
  exact h.base.far k hk b hb
 ·rw[Array.size_setIfInBounds,Array.size_map]
  rcases Array.mem_append.1 ay with h'|h'
  ·exact h.base.ops op h'
  rw[Kq op h',h.base.size];omega
 ·rcases bA hx with ⟨_,mA⟩| ⟨_,op,RU,_,yj⟩
  ·exact(h.sy.plain j hj p x mA hb hk).app u
  exact absurd hk (lK op RU x yj hb).1
 ·have N6:=h.sy.said
  match cl,cl',Ez,N6,lK with
  |none,_,.same _,N6,_=>
   intro p x hx hb hk
   rcases bA hx with ⟨_,mA⟩| ⟨hp,op,RU,ay,yj⟩
   ·exact(N6 p x mA hb hk).app u
   exact Ct Kq hp ay
  |some (ic,c,n),_,.same _,N6,lK=>
   intro he p x hx hb hk
   rcases bA hx with ⟨_,mA⟩| ⟨_,op,RU,_,yj⟩
   ·exact(N6 he p x mA hb hk).app u
   exact absurd ((lK op RU x yj (.inl hb)).2 hk) (by simp)
  |_,_,.up ic,_,_=>exact fun he=>he.elim
 have:=h.base.size
 rw[Array.getElem?_setIfInBounds_self_of_lt (by simp;omega)]
theorem Inv.HN(h:Inv E L K gs w t D pend cl g d0)(hw:w'.heap[E.Wg]?=w.heap[E.Wg]?):∀cl',zx cl cl'→∃st sm,WgAt E.ty E.Wg w' st sm∧Md E.max (fO an.cnt D+pend) (fO an.c4 D) (fO an.c3 D) (fO an.c2 D) (cl'.map (·.2.1)) st sm:=by
 intro cl' Ez
 obtain⟨st,sm,ha,hm⟩:=h.sy.cells
 exact⟨st,sm,by unfold WgAt;rw[hw];exact ha,hm.aqu Ez⟩
def TM(E:ee ι)(L:Nat→Option Obj)(Q:Machine→Outcome→World→Trace→Prop)(pend:Nat)(b:Bool)(os:List ι)(d0:Nat)(g:Goroutine)(s:St):Prop:=
 TC E L Q pend b os d0 g s∧(b=true→os=[]→∀pc,TL E.P (jN pc) L (H8 E pc) Q g s)
theorem TC.mono{b:Bool}{os:List ι}(hl:s.le s')(h:TC E L Q pend b os d0 g s):TC E L Q pend b os d0 g s':=
 fun K gs w t D cl sl hb hI ho hle=>h K gs w t D cl sl hb hI ho (hl.trans hle)
theorem fK(b:Bool)(os:List ι)(hb:b=true→pend=0):Closed E.P true (TM E L Q pend b os 0) where
 step:=fun g s hs h=>by
  have hL:b=true→os=[]→∀pc,TL E.P (jN pc) L (H8 E pc) Q g s:=fun e ho pc=>
   (Js (QN pc) (Hp E pc) Q).step g s hs fun w ha=>let ⟨g',w',es,s',h1,h2,h3,h4⟩:=h w ha;⟨g',w',es,s',h1,h2,h3,h4.2 e ho pc⟩
  refine⟨xm hs (fun K gs w t D cl sl m iZ hI ho hK hm=>?_) fun e=>⟨hb e,rfl,fun ho pc=>hL e ho pc⟩,hL⟩
  subst hK
  obtain⟨g',w',es,s',hgo,_,ht,hT,_⟩:=h w (hI.base.fit.ki 0)
  obtain⟨k1,k2,k3,k4,k5,k6⟩:=hI.sy.AM ht g.frame.fn g.frame.place
  obtain⟨lS,u,cl',hr,zi,Ug⟩:=hI.go0 (sl:=sl) hgo ⟨ht.os,ht.output⟩ k1 k2 k4 (hI.base.fit.own ht _ _) (fun op ay x hx sD=>absurd sD (k5 op ay x hx)) k6 (hI.HN k3) hI.sy.Ci
  rw[ht.deaf] at zi
  exact Ends.next (hm.trans hr) (hT _ lS w' _ D cl' sl (Ug.trans iZ) zi ho (by rw[aC];exact St.le_refl _))
 mono:=fun g s s' hl h=>⟨h.1.mono hl,fun e ho pc=>(h.2 e ho pc).mono hl⟩
theorem Md.opened{mx a b c:Nat}{o:Option CK}(h:Md mx n a b c o st sm)(ho:o=none):st=(n:Int)*KK∧sm=0:=by
 cases h with
 |start=>exact⟨rfl,rfl⟩
 |_=>cases ho
theorem E6{b:Bool}{os:List ι}{d':Nat}(hs:g.status= .running)(hb:b=false)
 (h:∀w st sm,WgAt E.ty E.Wg w st sm→(b=false→st=((os.length+pend:Nat):Int)*KK∧sm=0)→os.length+pend≤E.max→∃w',stepG E.P true g w= .go g' w' es∧eX E w w'∧WgAt E.ty E.Wg w' (((os.length+mL:Nat):Int)*KK) 0)
 (ze:∀e∈es,iY E e)(hd:deafBehind d0 es=d')(hp:os.length+pend≤E.max→os.length+mL≤E.max)(hT:TC E L Q mL b os d' g' s):TC E L Q pend b os d0 g s:=by
 subst hb
 refine xm hs (fun K gs w t D cl sl m iZ hI ho hK hm=>?_) fun e=>(by cases e)
 subst hK
 have hcn:cl=none:=by cases cl<;>simp_all
 subst hcn
 have jI:=hI.sy.EP
 have au4:∀D:List (an ι),(∀r∈D,r.early)→fO an.cnt D=(k7 D).length∧fO an.c4 D=0∧fO an.c3 D=0∧fO an.c2 D=0:=by
  intro D
  induction D with
  |nil=>intro _;exact⟨rfl,rfl,rfl,rfl⟩
  |cons r D ih=>
   intro hr
   obtain⟨i1,i4,i3,i2⟩:=ih fun x hx=>hr x (by simp[hx])
   have:=hr r (by simp)
   simp only[fO,List.map_cons,List.sum_cons,k7,List.filterMap_cons] at*
   cases r<;>first|exact this.elim| (simp[an.cnt,an.c4,an.c3,an.c2,an.Wo,i1,i4,i3,i2];try omega)
 obtain⟨c1,c4,c3,c2⟩:=au4 D jI
 rw[ho] at c1
 obtain⟨st,sm,ha,nD⟩:=hI.sy.cells
 have I5:=hI.sy.Ci
 rw[c1] at I5
 have bO:st=((os.length+pend:Nat):Int)*KK∧sm=0:=by
  rw[c1] at nD
  exact nD.opened rfl
 obtain⟨w',hgo,htu,u3⟩:=h w st sm ha (fun _=>bO) I5
 have aCl:=iY.ops ze 0 g.frame.fn g.frame.place
 obtain⟨lS,u,cl',hr,zi,Ug⟩:=hI.go0 (sl:=sl) (s':=K 0) (mL:=mL) hgo htu.same (hI.sy.kW 0) (hI.sy.kC 0) (htu.block _ (Ne.symm hI.sy.ne)) (by rw[mJ];exact hI.sy.Be hI.base.fit (.inl rfl) htu ze _ _)
  (fun op ay x hx _=>by rw[((aCl op ay).2.2 x hx).2];exact⟨by simp,by simp⟩) (fun op ay=>(aCl op ay).2.1) (fun cl' hw=>by
   cases hw
   rw[c1,c4,c3,c2]
   exact⟨_,_,u3,.start⟩) (by rw[c1];exact hp I5)
 rw[hd] at zi
 exact Ends.next (hm.trans hr) (hT _ lS w' _ D cl' sl (Ug.trans iZ) zi ho (by rw[aC];exact St.le_refl _))
end
section
variable {ι:Type} {E:ee ι} {L:Nat→Option Obj} {K:Nat→St} {gs:Array Goroutine} {w w':World} {t:Trace} {D:List (an ι)} {pend d0:Nat} {cl:Ai} {sl:Option (Nat×Nat)}
 {Q:Machine→Outcome→World→Trace→Prop} {g g' child:Goroutine} {s iN:St} {es:Array Event}
theorem vX(f:an ι→Nat)(D:List (an ι))(r:an ι):fO f (D++[r])=fO f D+f r:=by simp[fO]
theorem Inv.spawn(h:Inv E L K gs w t D pend none g 0)(hrw:(K 0).rw=[])(bO:stepG E.P true g w= .spawn g' child w #[])(hle:iN.le (K 0)){r:an ι}{cl':Ai} 
 (hr:r.left=false)(fM:∀t',Deaf t' gs.size=0→ov E t' gs.size iN child r)
 (hn:r.cnt+mL=pend)(h4:r.c4=0)(h3:r.c3=0)(h2:r.c2=0)
 (iZ:(cl'=none∧r.early)∨(∃n,cl'=some (D.length,.kd,n)∧r= .closer∧CK.at E iN child n .kd)):
 ∃lS u,runT E.P (crowd gs w sl) 0=(.next (crowd lS w sl),u)∧Inv E L (gk K gs.size iN) lS w (t++u) (D++[r]) mL cl' g' 0∧0 <gs.size:=by
 have vu:=h.base.size
 have bQ:=runT_crowd_spawn (P:=E.P) (sl:=sl) (i:=0) h.main (by simpa using bO)
 have e0:MemOp.ofEvents 0 g.frame.fn g.frame.place #[]= #[]:=rfl
 rw[e0] at bQ
 generalize hx:({g:=0,fn:=g.frame.fn,pos:=g.frame.place,act:= .go gs.size}:MemOp)=x at bQ
 generalize hy:({g:=gs.size,fn:=child.frame.fn,pos:=g.frame.place,act:= .start}:MemOp)=y at bQ
 have ex:x.g=0∧x.act= .go gs.size:=by rw[←hx];exact⟨rfl,rfl⟩
 have ey:y.g=gs.size∧y.act= .start:=by rw[←hy];exact⟨rfl,rfl⟩
 have eu:((#[]:Array MemOp).push x).push y= #[x,y]:=rfl
 rw[eu] at bQ
 have hq:∀op∈ #[x,y],op.act.touch?=none:=by intro op ay;simp at ay;rcases ay with rfl|rfl<;>simp[ex.2,ey.2,MemAct.touch?]
 have Qs:∀op∈ #[x,y],∀m,op.act≠ .mark m:=by intro op ay;simp at ay;rcases ay with rfl|rfl<;>simp[ex.2,ey.2]
 have hg:∀op∈ #[x,y],op.g=0∨op.g=gs.size:=by intro op ay;simp at ay;rcases ay with rfl|rfl<;>simp[ex.1,ey.1]
 have MW:Deaf t gs.size=0:=ConcN.Deaf_absent fun i op ho e=>by have:=h.base.ops op (mem_of_getElem? ho);omega
 have zg:∀k,Deaf (t++ #[x,y]) k=Deaf t k:=fun k=>gG t k _ Qs
 have afJ:∀p,Knows t 0 p→Knows (t++ #[x,y]) gs.size p:=fun p hp=>ConcN.fork_knows ex ey h.deaf MW hp
 have pX:=h.base.fit.quiet (u:= #[x,y]) (w':=w) E.Ch h.sy.kC h.sy.lC (Nat.le_refl _) (fun _ _ _=>rfl) hq
 have ZR:iN.rw=[]:=by
  obtain⟨R,hR,_⟩:=hle
  rw[hrw] at hR
  have:=List.append_eq_nil_iff.1 (List.nil_perm.1 hR)
  exact this.1
 have AY:∀b o,iN.ro b=some o→(K 0).ro b=some o:=fun b o hb=>by
  obtain⟨R,hR,h2⟩:=hle
  rw[hrw] at hR
  have:=List.append_eq_nil_iff.1 (List.nil_perm.1 hR)
  rcases h2 b o hb with h3|h3
  ·exact h3
  rw[this.2] at h3;cases h3
 have afK:=pX.share (i:=0) (n:=gs.size) (by omega) iN ZR AY fun b hb p z hz hzb hzw=>by
  rcases bA hz with ⟨_,Et⟩| ⟨_,op,hm,_,hzo⟩
  ·refine afJ p (h.base.fit.rB 0 b ?_ p z Et hzb hzw)
   cases mZ:iN.ro b with
   |none=>exact absurd mZ hb
   |some o=>rw[AY b o mZ];simp
  rw[hq op hm] at hzo;cases hzo
 have Ip:∀b,(∀j,¬(K j).knows b)→∀j,¬(gk K gs.size iN j).knows b:=fun b hb j hk=>by
  by_cases e:j=gs.size
  ·subst e;rw[aC] at hk;exact hb 0 (hle.knows hk)
  rw[aG _ _ e] at hk;exact hb j hk
 have jI:=h.sy.EP
 have oR:∀ {k z},(D++[r])[k]?=some z→(k <D.length∧D[k]?=some z)∨(k=D.length∧z=r):=fun {k z} hk=>by
  rcases Nat.lt_trichotomy k D.length with cH|e|hgt
  ·rw[List.getElem?_append_left cH] at hk;exact .inl ⟨cH,hk⟩
  ·subst e;rw[List.getElem?_append_right (Nat.le_refl _)] at hk;simp at hk;exact .inr ⟨rfl,hk.symm⟩
  rw[List.getElem?_eq_none (by simp;omega)] at hk;cases hk
 have hgs:∀k,k≠0→k <gs.size→((gs.setIfInBounds 0 g').push child)[k]?=gs[k]?:=fun k h0 cH=>by
  rw[Array.getElem?_push_lt (by simpa using cH),←Array.getElem?_eq_getElem,Array.getElem?_setIfInBounds_ne (Ne.symm h0)]
 have hgn:((gs.setIfInBounds 0 g').push child)[gs.size]?=some child:=by
  rw[Array.getElem?_push,if_pos (by simp)]
 refine⟨_,_,bQ,⟨⟨afK,by simp[vu],fun k z hk=>?_,fun k hk b hb=>?_,fun op ay=>?_,h.base.same⟩,
  ⟨Ip _ h.sy.kW,Ip _ h.sy.kC,h.sy.lW,h.sy.lC,h.sy.ne,fun a=>(h.sy.norel a).app fun op ay=>Qs op ay _,fun j hj p z hz hzb hzk=>?_,?_,?_,?_,h.sy.chan,h.sy.bal,?_⟩,?_,by rw[zg];exact h.deaf⟩,by omega⟩
 ·rcases oR hk with ⟨cH,j8⟩| ⟨rfl,rfl⟩
  ·obtain⟨q,hqk,aQS⟩:=h.base.ok k z j8
   exact⟨q,by rw[hgs _ (by omega) (by omega)];exact hqk,by rw[aG _ _ (by omega)];exact aQS.other fun op ay=>by rcases hg op ay with e|e<;>rw[e]<;>omega⟩
  refine⟨child,by rw[←vu];exact hgn,?_⟩
  rw[←vu,aC]
  exact fM _ (by rw[zg];exact MW)
 ·rw[Array.size_push,Array.size_setIfInBounds] at hk
  rw[aG _ _ (by omega)] at hb
  exact h.base.far k (by omega) b hb
 ·rw[Array.size_push,Array.size_setIfInBounds]
  rcases Array.mem_append.1 ay with h'|h'
  ·have:=h.base.ops op h';omega
  rcases hg op h' with e|e<;>rw[e]<;>omega
 ·rcases bA hz with ⟨_,Et⟩| ⟨_,op,hm,_,hzo⟩
  ·rcases hj with rfl| ⟨k,q,rfl,hk,hl⟩
   ·exact(h.sy.plain 0 (.inl rfl) p z Et hzb hzk).app _
   rcases oR hk with ⟨_,j8⟩| ⟨rfl,rfl⟩
   ·exact(h.sy.plain (k+1) (.inr ⟨k,q,rfl,j8,hl⟩) p z Et hzb hzk).app _
   rw[←vu];exact afJ p (h.sy.plain 0 (.inl rfl) p z Et hzb hzk)
  rw[hq op hm] at hzo;cases hzo
 ·have N6:=h.sy.said
  rcases iZ with ⟨rfl,_⟩| ⟨n,rfl,_,_⟩
  ·intro p z hz hzb hzk
   rcases bA hz with ⟨_,Et⟩| ⟨_,op,hm,_,hzo⟩
   ·exact(N6 p z Et hzb hzk).app _
   rw[hq op hm] at hzo;cases hzo
  intro _ p z hz hzb hzk
  rcases bA hz with ⟨_,Et⟩| ⟨_,op,hm,_,hzo⟩
  ·rw[←vu];exact afJ p (N6 p z Et hzb hzk)
  rw[hq op hm] at hzo;cases hzo
 ·obtain⟨st,sm,ha,nD⟩:=h.sy.cells
  refine⟨st,sm,ha,?_⟩
  rw[vX,vX,vX,vX,h4,h3,h2,show fO an.cnt D+r.cnt+mL=fO an.cnt D+pend by omega]
  rcases iZ with ⟨rfl,_⟩| ⟨n,rfl,_,_⟩
  ·exact nD
  have z:∀(f:an ι→Nat),(∀r:an ι,r.early→f r=0)→fO f D=0:=fun f hf=>by
   unfold fO
   rw[List.sum_eq_zero_iff_forall_eq_nat]
   intro a u3
   obtain⟨q,Ii,rfl⟩:=List.mem_map.1 u3
   exact hf q (jI q Ii)
  have z4:=z an.c4 fun r hr=>by cases r<;>first|rfl|exact hr.elim
  have z3:=z an.c3 fun r hr=>by cases r<;>first|rfl|exact hr.elim
  have z2:=z an.c2 fun r hr=>by cases r<;>first|rfl|exact hr.elim
  obtain⟨rfl,rfl⟩:=nD.opened rfl
  rw[z4,z3,z2]
  exact .kd
 ·rw[vX];have:=h.sy.Ci;omega
 ·rcases iZ with ⟨rfl,RP⟩| ⟨n,rfl,rfl,qi⟩
  ·intro z hz
   rcases List.mem_append.1 hz with h'|h'
   ·exact jI z h'
   simp at h';subst h';exact RP
  refine⟨by simp,fun k hk=>?_,by rw[zg,←vu];exact MW,⟨child,by rw[←vu];exact hgn,by rw[←vu,aC];exact qi⟩,fun⟨_,e⟩=>(by cases e)⟩
  rcases oR hk with ⟨_,j8⟩| ⟨e,_⟩
  ·exact(jI _ (List.mem_of_getElem? j8)).elim
  exact e
 rw[Array.getElem?_push_lt (by simp;omega),←Array.getElem?_eq_getElem,Array.getElem?_setIfInBounds_self_of_lt (by omega)]
theorem Jv{os:List ι}{o:ι}(hs:g.status= .running)(hrw:s.rw=[])(bO:∀w,aQ s w→stepG E.P true g w= .spawn g' child w #[])(hw:eZ E.P false (E.Jo o) child s)
 (hT:TC E L Q 0 false (os++[o]) 0 g' s):TC E L Q 1 false os 0 g s:=by
 refine xm hs (fun K gs w t D cl sl m iZ hI ho hK hm=>?_) fun e=>(by cases e)
 subst hK
 have hcn:cl=none:=by cases cl<;>simp_all
 subst hcn
 obtain⟨tr,iN,hle,htr⟩:=hw
 obtain⟨lS,u,hr,zi,h0⟩:=hI.spawn (sl:=sl) (r:= .work o tr) (cl':=none) (mL:=0) hrw (bO w (hI.base.fit.ki 0)) hle rfl (fun t' hd=>⟨hd,htr⟩) rfl rfl rfl rfl (.inl ⟨rfl,trivial⟩)
 exact Ends.next (hm.trans hr) (hT _ lS w _ _ none sl rfl zi (by simp[k7,List.filterMap_append,an.Wo] at ho ⊢;exact ho) (by rw[aG _ _ (by omega)];exact St.le_refl _))
theorem Jw{os:List ι}(hs:g.status= .running)(hrw:s.rw=[])(bO:∀w,aQ s w→stepG E.P true g w= .spawn g' child w #[])(hw:E.closes s child)
 (hT:TC E L Q 0 true os 0 g' s):TC E L Q 0 false os 0 g s:=by
 refine xm hs (fun K gs w t D cl sl m iZ hI ho hK hm=>?_) fun e=>(by cases e)
 subst hK
 have hcn:cl=none:=by cases cl<;>simp_all
 subst hcn
 obtain⟨n,hn⟩:=hw
 obtain⟨lS,u,hr,zi,h0⟩:=hI.spawn (sl:=sl) (iN:=K 0) (r:= .closer) (cl':=some (D.length,.kd,n)) (mL:=0) hrw (bO w (hI.base.fit.ki 0)) (St.le_refl _) rfl (fun t' hd=>trivial) rfl rfl rfl rfl (.inr ⟨n,rfl,rfl,hn⟩)
 exact Ends.next (hm.trans hr) (hT _ lS w _ _ _ sl rfl zi (by rw[k7,List.filterMap_append];simp only[List.filterMap_cons,an.Wo,List.filterMap_nil,List.append_nil];exact ho) (by rw[aG _ _ (by omega)];exact St.le_refl _))
end
section
variable {ι:Type} {E:ee ι} {Q:Machine→Outcome→World→Trace→Prop} {g:Goroutine} {s s':St}
theorem OE{L:Nat→Option Obj}(hs:g.status= .running)(eB:E.Wg≠E.Ch)
 (hW:(E.Wg,wgBlock E.ty 0 0)∈s.rw)(hC:∃tm,(E.Ch,Obj.chan 0 #[] false 0 0 tm)∈s.rw)
 (hle:s'.le s)(hkW:¬s'.knows E.Wg)(hkC:¬s'.knows E.Ch)(ld:∀b,s'.jD b→L b=none)
 (hL:∀b o,L b=some o→s.has b o∧b≠E.Wg∧b≠E.Ch)
 (hT:TC E L Q 0 false [] 0 g s'):TL E.P eR (fun _=>none) (Calm E.os E.out) Q g s:=by
 intro K gs w t q sl hLv h0 aRr hd ⟨atZ,aeQ⟩
 have hLv:=hLv.le aRr
 have ZR:(gk K 0 s) 0=s:=aC _ _ _
 have pY:=hLv.fit.ki 0
 rw[ZR] at pY
 obtain⟨tm,hC⟩:=hC
 have hWw:=pY.rw _ _ hW
 have hCw:=pY.rw _ _ hC
 have hex:∀i,i <q.length→∃d,∃x,gs[i+1]?=some x∧QuitsD E.P (q.getD i 0) d x∧Deaf t (i+1)=d∧eR t (i+1):=fun i hi=>by
  obtain⟨x,d,h1,h2,h3,h4⟩:=hLv.ok i _ (List.getElem?_eq_getElem hi)
  exact⟨d,x,h1,by rw[List.getD_eq_getElem?_getD,List.getElem?_eq_getElem hi];exact h2,h3,h4⟩
 let D:List (an ι):=(List.range q.length).map fun i=>an.leave (q.getD i 0) (Deaf t (i+1)) false
 have hD:∀i r,D[i]?=some r→i <q.length∧r=an.leave (q.getD i 0) (Deaf t (i+1)) false:=fun i r hi=>by
  simp only[D,List.getElem?_map] at hi
  obtain⟨j,hj,rfl⟩:=Option.map_eq_some_iff.1 hi
  obtain⟨cH,rfl⟩:=List.getElem?_eq_some_iff.1 hj
  simp only[List.length_range] at cH
  simp only[List.getElem_range]
  exact⟨cH,trivial⟩
 have jH:∀r∈D,∃a b,r=an.leave a b false:=fun r hr=>by
  obtain⟨i,hi⟩:=List.getElem?_of_mem hr
  exact⟨_,_,(hD i r hi).2⟩
 have hzero:∀f:an ι→Nat,(∀a b,f (.leave a b false)=0)→fO f D=0:=fun f hf=>by
  unfold fO
  rw[List.sum_eq_zero_iff_forall_eq_nat]
  intro x hx
  obtain⟨r,hr,rfl⟩:=List.mem_map.1 hx
  obtain⟨a,b,rfl⟩:=jH r hr
  exact hf a b
 let K':Nat→St:=fun j=>if j=0 then s' else ⟨fun _=>none,[]⟩
 have XE:K' 0=s':=by simp[K']
 have hKn:∀j,j≠0→K' j=⟨fun _=>none,[]⟩:=fun j hj=>by simp[K',hj]
 have none:∀j b,j≠0→¬(K' j).knows b:=fun j b hj hk=>by
  rw[hKn j hj] at hk
  rcases hk with hk| ⟨o,ho⟩
  ·exact hk rfl
  cases ho
 have G9:Fit (fun _=>Option.none) K' w t:=hLv.fit.le fun j=>by
  by_cases e:j=0
  ·subst e;rw[XE,ZR];exact hle
  rw[hKn j e];exact⟨(gk K 0 s j).rw,by simp,fun b o hb=>(by cases hb)⟩
 have afK:Fit L K' w t:=by
  refine⟨fun b o hl=>pY.has (hL b o hl).1,fun i b ho=>?_,G9.ki,G9.sep,G9.perm,G9.rB,G9.old,G9.clean,fun p x b hx hk hb=>⟨?_,(G9.sync p x b hx hk hb).2⟩⟩
  ·by_cases e:i=0
   ·subst e;rw[XE] at ho;exact ld b ho
   exact absurd (.inr ho) (none i b e)
  cases hl:L b with
  |none=>rfl
  |some o=>
   have:=(hLv.fit.sync p x b hx hk hb).2 0
   rw[ZR] at this
   rcases(hL b o hl).1 with h1|h1
   ·exact absurd (.inl (by rw[h1];simp)) this
   exact absurd (.inr ⟨o,h1⟩) this
 have hLb:∀b,(b=E.Wg∨b=E.Ch)→L b=Option.none:=fun b hb=>by
  cases hl:L b with
  |none=>rfl
  |some o=>
   rcases hb with e|e
   ·exact absurd e (hL b o hl).2.1
   exact absurd e (hL b o hl).2.2
 have hKk:∀b,¬s'.knows b→∀j,¬(K' j).knows b:=fun b hb j=>by
  by_cases e:j=0
  ·subst e;rw[XE];exact hb
  exact none j b e
 have aoF:∀p x,touchAt t p=some x→blk x.loc=some E.Wg→Knows t 0 p:=fun p x hx hb=>hLv.fit.perm 0 E.Wg (by rw[ZR];exact⟨_,hW⟩) p x hx hb
 have aAy:∀p x,touchAt t p=some x→E.At x→Knows t 0 p:=fun p x hx hb=>hb.elim (aoF p x hx) fun hb=>hLv.fit.perm 0 E.Ch (by rw[ZR];exact⟨_,hC⟩) p x hx hb
 refine hT K' gs w t D Option.none sl rfl ⟨⟨afK,by simp[D,hLv.size],fun i r hi=>?_,fun i hi b=>?_,hLv.ops,aeQ⟩,
  ⟨hKk _ hkW,hKk _ hkC,hLb _ (.inl rfl),hLb _ (.inr rfl),eB,atZ,fun j hj p x hx hb _=>?_,fun p x hx hb _=>aoF p x hx hb,⟨0,0,hWw,?_⟩,?_,⟨0,0,tm,hCw⟩,fun a b c hx=>?_,fun r hr=>?_⟩,h0,hd⟩ ?_ (by rw[XE];exact St.le_refl _)
 ·obtain⟨cH,rfl⟩:=hD i r hi
  obtain⟨d,x,h1,h2,h3,h4⟩:=hex i cH
  exact⟨x,h1,hKn _ (by omega),by rw[h3];exact h2,rfl,(fun e=>(by cases e)),fun _=>h4⟩
 ·exact none i b (by have:=hLv.size;omega)
 ·rcases hj with rfl| ⟨k,r,rfl,hk,hl⟩
  ·exact aAy p x hx hb
  obtain⟨_,rfl⟩:=hD k r hk;cases hl
 ·rw[hzero an.cnt fun _ _=>rfl,hzero an.c4 fun _ _=>rfl,hzero an.c3 fun _ _=>rfl,hzero an.c2 fun _ _=>rfl]
  have:=Md.start (mx:=E.max) (n:=0)
  simpa using this
 ·rw[hzero an.cnt fun _ _=>rfl];omega
 ·rw[hCw] at hx
  simp only[Option.some.injEq,Obj.chan.injEq] at hx
  omega
 ·obtain⟨a,b,rfl⟩:=jH r hr;rfl
 unfold k7
 rw[List.filterMap_eq_nil_iff]
 intro r hr
 obtain⟨a,b,rfl⟩:=jH r hr;rfl
end
theorem Dy(os:Os)(out:Array (Nat×ByteArray)):Yo (Calm os out) where
 grow:=fun _ _ _ _ h hu=>⟨fun a=>(h.1 a).app fun op ay=>hu op ay a,h.2⟩
 drawn:=fun _ _ _ _ h=>h
 le:=fun _ _ _ _ h _=>h
 own:=fun _ _ _ _ _ _ _ h ht hu=>⟨fun a=>(h.1 a).app fun op ay=>hu op ay a,ht.os.trans h.2.1,ht.output.trans h.2.2⟩
def T0(P:Program)(os:Os)(out:Array (Nat×ByteArray))(Post:Value→World→Prop):Goroutine→St→Prop:=TL P eR (fun _=>none) (Calm os out) (Good P Post)
theorem sX(P:Program)(os:Os)(out:Array (Nat×ByteArray))(Post:Value→World→Prop):Closed P true (T0 P os out Post):=Js DM (Dy os out) _
theorem YJ{os:Os}{out:Array (Nat×ByteArray)}{Post:Value→World→Prop}{s:St}(hs:g.status= .running)
 (bO:∀w,aQ s w→w.os=os→w.output=out→∃v w' es s',stepG P true g w= .ended (.done v) w' es∧Post v w'∧Trans s w s' w' es):T0 P os out Post g s:=by
 refine Ll DM (Dy os out) hs fun K gs w t q sl m hL h0 hK hd hi hm hmg=>?_
 subst hK
 obtain⟨v,w',es,s',hgo,hp,ht⟩:=bO w (hL.fit.ki 0) hi.2.1 hi.2.2
 have hr:=ConcN.runT_crowd_ended (P:=P) (sl:=sl) (i:=0) h0 (by simpa using hgo)
 have pX:=hL.fit.own ht g.frame.fn g.frame.place
 generalize hu:MemOp.ofEvents 0 g.frame.fn g.frame.place es=u at hr pX
 have Kq:∀op∈u,op.g=0:=by rw[←hu];exact fun op ay=>Go.ConcR.g_of_ofEvents op ay
 refine⟨0,m,.done v,w',t++u,by simp[runNT,hm,hr],rfl,by simp[step,hm,hr],v,rfl,hp,pX.clean,fun i k hk eB hc=>?_,⟨fun x hx=>?_,by rw[hmg.2];rfl⟩,fun i x hx eB=>?_⟩
 ·obtain⟨op,ho,bfl⟩:=Option.map_eq_some_iff.1 hk
  cases k with
  |zero=>exact absurd rfl eB
  |succ k=>
   have cH:op.g <gs.size:=by
    rcases Array.mem_append.1 (mem_of_getElem? ho) with h'|h'
    ·exact hL.ops op h'
    rw[Kq op h',hL.size];omega
   have hkq:k <q.length:=by have:=hL.size;omega
   obtain⟨_,_,_,_,_,bR⟩:=hL.ok k _ (List.getElem?_eq_getElem hkq)
   exact(bR.other fun op ay=>by rw[Kq op ay];omega) i hk hc
 ·rw[hmg.1] at hx
  obtain⟨j,hj⟩:=List.getElem?_of_mem hx
  rw[List.getElem?_drop,Array.getElem?_toList] at hj
  have hjq:j <q.length:=by have:=lt_size hj;have:=hL.size;omega
  obtain⟨y,d,hy,hq,_⟩:=hL.ok j _ (List.getElem?_eq_getElem hjq)
  rw[Nat.add_comm] at hj
  rw[hj] at hy
  obtain rfl:=Option.some.inj hy
  exact⟨_,hq.leaves⟩
 rw[hmg.1] at hx
 cases i with
 |zero=>exact absurd rfl eB
 |succ j=>
  have hjq:j <q.length:=by have:=lt_size hx;have:=hL.size;omega
  obtain⟨y,d,hy,hq,hdd,_⟩:=hL.ok j _ (List.getElem?_eq_getElem hjq)
  rw[hx] at hy
  obtain rfl:=Option.some.inj hy
  refine⟨q[j],?_⟩
  have e:(t++u).deaf (j+1) (t++u).size=d:=by
   have:=iE t u (g:=j+1) fun op ay=>by rw[Kq op ay];omega
   unfold Deaf at this hdd
   rw[this];exact hdd
  rw[e]
  exact hq.hears m.world
theorem aca{Post:Value→World→Prop}{s:St}{w:World}(ha:aQ s w)(h:T0 P w.os w.output Post g s):Ends P (Good P Post) (solo g w) #[]:=by
 rw[solo_eq_crowd]
 have Kt:∀p x,touchAt #[] p=some x→False:=fun p x hx=>by simp[touchAt,Trace.act?] at hx
 have hn:∀i,i≠0→∀b,¬((if i=0 then s else ⟨fun _=>none,[]⟩:St)).knows b:=fun i hi b hk=>by
  rw[if_neg hi] at hk
  rcases hk with hk| ⟨o,ho⟩
  ·exact hk rfl
  cases ho
 refine h (fun j=>if j=0 then s else ⟨fun _=>none,[]⟩) #[g] w #[] [] none ⟨⟨(fun _ _ e=>(by cases e)),fun _ _ _=>rfl,fun i=>?_,fun i j b Io ho hk=>?_,fun _ _ _ p x hx=>(Kt p x hx).elim,fun _ _ _ p x hx=>(Kt p x hx).elim,
  fun p x _ hx=>(Kt p x hx).elim,(fun said ⟨i,j,_,⟨a,b,h1,_⟩,_⟩=>by simp[Trace.act?] at h1),fun p x _ hx=>(Kt p x hx).elim⟩,rfl,fun i n hi=>by simp at hi,fun i b hi hk=>hn i hi b hk,by simp⟩ rfl (by simp only[if_true];exact St.le_refl _) rfl ⟨fun a i=>by simp[Trace.act?],rfl,rfl⟩
 ·by_cases e:i=0
  ·simp only[e,if_true];exact ha
  simp only[if_neg e];exact⟨(fun _ _ e=>(by cases e)),(fun _ _ e=>(by cases e)),by simp,(fun _ _ e=>(by cases e))⟩
 by_cases e:j=0
 ·exact hn i (fun e'=>Io (e'.trans e.symm)) b (.inr ho)
 exact hn j e b hk
section
variable {ι:Type} {E:ee ι} {L:Nat→Option Obj} {pend d0:Nat} {Q:Machine→Outcome→World→Trace→Prop} {g g':Goroutine} {s:St} {os:List ι}
theorem VQ(hs:g.status= .running)(bO:∀w,E.live w→stepG E.P true g w= .go g' w #[])(hT:TC E L Q pend false os d0 g' s):TC E L Q pend false os d0 g s:=
 E6 (es:= #[]) (mL:=pend) hs rfl (fun w st sm ha hb _=>⟨w,bO w ⟨st,sm,ha⟩,eX.refl w,by obtain⟨rfl,rfl⟩:=hb rfl;exact ha⟩) (by simp) rfl id hT
theorem ake(hs:g.status= .running)(bO:∀w,E.live w→stepG E.P true g w= .go g' w #[said (.read (smA E.Wg))])(hT:TC E L Q pend false os d0 g' s):TC E L Q pend false os d0 g s:=by
 refine xm hs (fun K gs w t D cl sl m iZ hI ho hK hm=>?_) fun e=>(by cases e)
 subst hK
 have hcn:cl=none:=by cases cl<;>simp_all
 subst hcn
 obtain⟨st,sm,ha,_⟩:=hI.sy.cells
 have hgo:=bO w ⟨st,sm,ha⟩
 have e1:MemOp.ofEvents 0 g.frame.fn g.frame.place #[said (.read (smA E.Wg))]= #[{g:=0,fn:=g.frame.fn,pos:=g.frame.place,act:= .mark (.read (smA E.Wg))}]:=by rw[ofEvents_eq];simp[said,Go.ConcR.ofEvent_mk]
 have atT:∀op∈MemOp.ofEvents 0 g.frame.fn g.frame.place #[said (.read (smA E.Wg))],op.g=0∧op.act= .mark (.read (smA E.Wg)):=by
  rw[e1];intro op ay;simp only[List.mem_toArray,List.mem_singleton] at ay;subst ay;exact⟨rfl,rfl⟩
 have htc:∀op∈MemOp.ofEvents 0 g.frame.fn g.frame.place #[said (.read (smA E.Wg))],∀x,op.act.touch?=some x→x=⟨.cell (smA E.Wg),false,.said⟩:=fun op ay x hx=>by
  rw[(atT op ay).2] at hx;simp only[MemAct.touch?,Option.some.injEq] at hx;exact hx.symm
 obtain⟨lS,u,cl',hr,zi,Ug⟩:=hI.go0 (sl:=sl) (s':=K 0) (mL:=pend) hgo ⟨rfl,rfl⟩ (hI.sy.kW 0) (hI.sy.kC 0) rfl (by
  rw[mJ]
  refine hI.base.fit.beside E.Wg 0 hI.sy.kW hI.sy.lW (lt_size ha) (Nat.le_refl _) (fun _ _ _=>rfl) (fun op ay=>(atT op ay).1) fun op ay x hx=>?_
  obtain rfl:=htc op ay x hx
  refine⟨rfl,fun sd p a u3 hc=>?_⟩
  have hl:blk a.loc=some E.Wg:=by rw[hc.1];rfl
  rcases hc.2.2.2 with h3|h3|h3
  ·exact hI.sy.plain 0 (.inl rfl) p a u3 (.inl hl) h3
  ·cases h3
  ·exact hI.sy.said p a u3 hl h3.2.1)
  (fun op ay x hx _=>by obtain rfl:=htc op ay x hx;exact⟨by simp,fun _=>rfl⟩) (fun op ay a=>by rw[(atT op ay).2];simp) (hI.HN rfl) hI.sy.Ci
 exact Ends.next (hm.trans hr) (hT _ lS w _ D cl' sl (Ug.trans iZ) zi ho (by rw[aC];exact St.le_refl _))
end
abbrev Le:=Option Value×Option Value
abbrev jQ:Le:=(none,none)
def HP:Le→Nat→Option Value
 | (a,_),0=>a
 | (_,b),1=>b
 |_,_=>none
theorem Rm(off:Nat):HP jQ off=none:=by
 match off with
 |0=>rfl
 |1=>rfl
 |_+2=>rfl
def NB:Le→Nat→Value→Le
 | (_,b),0,v=>(some v,b)
 | (a,_),1,v=>(a,some v)
 |c,_,_=>c
inductive RH(α:Type) where
 |ok (a:α)
 |halt (h:Halt)
structure VO(α:Type) where
 r:RH α
 ws:List (Nat×Value)
 es:List Event
 bs:List Nat
def ve(P:Program)(ty:TypeId):Sem α→Le→Option (VO α)
 | .pure a,_=>some ⟨.ok a,[],[],[]⟩
 | .load m a k,c=>match a.spot with
  |some _=>none
  |none=>match HP c a.off with
   |some v=>match ve P ty (k v) c with
    |some o=>some ⟨o.r,o.ws,⟨.cell a,false,m== .atomic⟩::o.es,a.block::o.bs⟩
    |none=>none
   |none=>none
 | .store m a v k,c=>match a.spot with
  |some _=>none
  |none=>bif single v then (match HP c a.off with
   |some _=>match ve P ty k (NB c a.off v) with
    |some o=>some ⟨o.r,(a.off,v)::o.ws,⟨.cell a,true,m== .atomic⟩::o.es,a.block::o.bs⟩
    |none=>none
   |none=>none) else none
 | .shape r k,c=>match ve P ty (k (some (ty,2))) c with
  |some o=>some ⟨o.r,o.ws,o.es,r::o.bs⟩
  |none=>none
 | .frozen a k,c=>match ve P ty (k false) c with
  |some o=>some ⟨o.r,o.ws,o.es,a.block::o.bs⟩
  |none=>none
 | .program k,c=>ve P ty (k P) c
 | .mark m k,c=>match ve P ty k c with
  |some o=>some ⟨o.r,o.ws,⟨.mark m,false,true⟩::o.es,o.bs⟩
  |none=>none
 | .halt h,_=>some ⟨.halt h,[],[],[]⟩
 |_,_=>none
def mU(ty:TypeId)(W:Nat)(w:World)(c:Le):Prop:=∃a b,w.heap[W]?=some (.cells #[a,b] ty)∧(∀x,c.1=some x→a=x)∧∀x,c.2=some x→b=x
theorem mU.acm{w:World}{c:Le}(h:mU ty W w c):∃a b,w.heap[W]?=some (.cells #[a,b] ty):=by
 obtain⟨a,b,h,_⟩:=h
 exact⟨a,b,h⟩
def Mg(W:Nat)(w:World)(ws:List (Nat×Value)):World:=ws.foldl (fun w x=>w.setCell ⟨W,x.1,none⟩ x.2) w
def RH.to(w:World):RH α→Result α
 | .ok a=> .ok a w
 | .halt h=> .halt h w
theorem HO{w:World}{c:Le}(h:mU ty W w c){v:Value}(hv:HP c off=some v):w.cell? ⟨W,off,none⟩=some v:=by
 obtain⟨p,q,h,h1,h2⟩:=h
 unfold HP at hv
 split at hv<;>try (cases hv;done)
 ·rw[←h1 _ hv];simp[World.cell?,h]
 rw[←h2 _ hv];simp[World.cell?,h]
theorem aav{w:World}{c:Le}(h:mU ty W w c){u v:Value}(hv:HP c off=some u):mU ty W (w.setCell ⟨W,off,none⟩ v) (NB c off v):=by
 obtain⟨p,q,h,h1,h2⟩:=h
 unfold HP at hv
 split at hv<;>try (cases hv;done)
 ·exact⟨v,q,by simp[World.setCell,Array.getElem?_modify,h],by simp[NB],fun x hx=>h2 x hx⟩
 exact⟨p,v,by simp[World.setCell,Array.getElem?_modify,h],fun x hx=>h1 x hx,by simp[NB]⟩
theorem abX{w:World}{a b:Value}(h:w.heap[W]?=some (.cells #[a,b] ty)) (off:Nat) (s:Option Nat):w.frozen? ⟨W,off,s⟩=false:=by
 simp[World.frozen?,h]
theorem Ly(x:Sem α):∀ {c:Le} {o:VO α} {w:World} (es:Array Event),ve P ty x c=some o→(∀b∈o.bs,b=W)→((c=jQ∧o.bs=[])∨mU ty W w c)→x.runT P w es=(o.r.to (Mg W w o.ws),es++o.es.toArray):=by
 induction x with
 |pure a=>intro c o w es h hb hc;simp only[ve,Option.some.injEq] at h;subst h;simp[Sem.runT,RH.to,Mg]
 |halt a=>intro c o w es h hb hc;simp only[ve,Option.some.injEq] at h;subst h;simp[Sem.runT,RH.to,Mg]
 |load m a k ih=>
  intro c o w es h hb hc
  simp only[ve] at h
  split at h<;>try (cases h;done)
  rename_i hs
  split at h<;>try (cases h;done)
  rename_i v hv
  split at h<;>try (cases h;done)
  rename_i o1 h1
  simp only[Option.some.injEq] at h;subst h
  have e:a=⟨W,a.off,none⟩:=by
   have:=hb a.block (by simp)
   rcases a with ⟨x,y,z⟩
   simp only at hs this
   subst hs this;rfl
  have tz:mU ty W w c:=hc.elim (fun hh=>by rw[hh.1] at hv;rw[Rm] at hv;cases hv) id
  have Hd:w.cell? a=some v:=by rw[e];exact HO tz hv
  simp only[Sem.runT,Hd]
  rw[ih v _ h1 (fun b hm=>hb b (by simp[hm])) (.inr tz)]
  simp
 |store m a v k ih=>
  intro c o w es h hb hc
  simp only[ve] at h
  split at h<;>try (cases h;done)
  rename_i hs
  cases hsg:single v with
  |false=>rw[hsg] at h;cases h
  |true=>
  rw[hsg] at h;simp only[cond_true] at h
  split at h<;>try (cases h;done)
  rename_i u hu
  split at h<;>try (cases h;done)
  rename_i o1 h1
  simp only[Option.some.injEq] at h;subst h
  have e:a=⟨W,a.off,none⟩:=by
   have:=hb a.block (by simp)
   rcases a with ⟨x,y,z⟩
   simp only at hs this
   subst hs this;rfl
  have tz:mU ty W w c:=hc.elim (fun hh=>by rw[hh.1] at hu;rw[Rm] at hu;cases hu) id
  have Hd:w.cell? a=some u:=by rw[e];exact HO tz hu
  have hfz:w.frozen? a=false:=by
   obtain⟨p,q,Xg⟩:=tz.acm
   rw[e];exact abX Xg _ _
  have pE:=aav (v:=v) tz hu
  have key:(Sem.store m a v k).runT P w es=k.runT P (w.setCell a v) (es.push ⟨.cell a,true,m== .atomic⟩):=by
   cases v<;>first| (cases hsg;done)|simp[Sem.runT,Hd,hfz]
  rw[key,ih _ h1 (fun b hm=>hb b (by simp[hm])) (.inr (by rw[e];exact pE))]
  simp only[Mg,List.foldl_cons]
  rw[←e]
  simp
 |shape r k ih=>
  intro c o w es h hb hc
  simp only[ve] at h
  split at h<;>try (cases h;done)
  rename_i o1 h1
  simp only[Option.some.injEq] at h;subst h
  have e:r=W:=hb r (by simp)
  have tz:mU ty W w c:=hc.elim (fun hh=>by cases hh.2) id
  have hsh:w.shape? r=some (ty,2):=by
   obtain⟨p,q,Xg⟩:=tz.acm
   rw[e];simp[World.shape?,Xg]
  simp only[Sem.runT,hsh]
  exact ih _ _ h1 (fun b hm=>hb b (by simp[hm])) (.inr tz)
 |frozen a k ih=>
  intro c o w es h hb hc
  simp only[ve] at h
  split at h<;>try (cases h;done)
  rename_i o1 h1
  simp only[Option.some.injEq] at h;subst h
  have e:a.block=W:=hb a.block (by simp)
  have tz:mU ty W w c:=hc.elim (fun hh=>by cases hh.2) id
  have hsh:w.frozen? a=false:=by
   obtain⟨p,q,Xg⟩:=tz.acm
   rcases a with ⟨x,y,z⟩
   simp only at e;subst e;exact abX Xg _ _
  simp only[Sem.runT,hsh]
  exact ih _ _ h1 (fun b hm=>hb b (by simp[hm])) (.inr tz)
 |program k ih=>
  intro c o w es h hb hc
  simp only[ve] at h
  simp only[Sem.runT]
  exact ih _ _ h hb hc
 |mark m k ih=>
  intro c o w es h hb hc
  simp only[ve] at h
  split at h<;>try (cases h;done)
  rename_i o1 h1
  simp only[Option.some.injEq] at h;subst h
  simp only[Sem.runT]
  rw[ih _ h1 (fun b hm=>hb b hm) hc]
  simp
 |new o k ih=>intro c o w es h;cases h
 |freeze a n k ih=>intro c o w es h;cases h
 |getObj r k ih=>intro c o w es h;cases h
 |setObj r o k ih=>intro c o w es h;cases h
 |choose q k ih=>intro c o w es h;cases h
 |sys q k ih=>intro c o w es h;cases h
def awe(fr:Frame):Option Frame:=
 match fr.todo with
 | []=>match fr.roundOf with
  |none=>some {fr with mode:= .returning}
  |some _=>none
 | .code .ret::_=>match fr.roundOf with
  |none=>some {fr with mode:= .returning}
  |some _=>none
 | .code .skip::k=>some {fr with todo:=k}
 | .code (.label _)::k=>some {fr with todo:=k}
 | .inBlock _::k=>some {fr with todo:=k}
 | .inScope _::k=>some {fr with todo:=k}
 | .code (.seq a b)::k=>some {fr with todo:= .code a:: .code b::k}
 | .code (.cond c x y)::k=>match fr.eval c with
  | .bool b=>some {fr with todo:= .code (if b then x else y)::k}
  |_=>none
 | .code (.block id body)::k=>some {fr with todo:= .code body:: .inBlock id::k}
 | .code (.loop body)::k=>some {fr with todo:= .code body:: .inLoop body::k}
 | .inLoop body::k=>some {fr with todo:= .code body:: .inLoop body::k}
 | .code (.scope body)::k=>some {fr with todo:= .code body:: .inScope body::k}
 | .code (.exit id)::k=>match exitTo id k with
  |some k'=>some {fr with todo:=k'}
  |none=>none
 | .code (.region _ ops false)::k=>some {fr with todo:= .inRegion ops (List.range ops.size)::k}
 | .inRegion _ []::k=>some {fr with todo:=k}
 | .inRegion ops (i::_)::_=>if ((ops[i]?).map (Region.wanted · (yielded ops fr.tmps))).getD false then none else some (fr.finish undef)
 |_=>none
theorem am7(hm:fr.mode= .run)(h:awe fr=some od)(w:World):stepG P main (G fr cs) w= .go (G od cs) w #[]:=by
 rcases fr with ⟨fn,tmps,todo,defers,mode,kind,ro⟩
 simp only at hm;subst hm
 unfold awe at h
 simp only at h
 split at h
 all_goals try (cases h;done)
 all_goals try (simp only[Option.some.injEq] at h;subst h;simp[G,stepG,stepG.exec];done)
 ·split at h<;>try (cases h;done)
  simp only[Option.some.injEq] at h;subst h;simp[G,stepG,stepG.exec]
 ·split at h<;>try (cases h;done)
  simp only[Option.some.injEq] at h;subst h;simp[G,stepG,stepG.exec]
 ·split at h<;>try (cases h;done)
  rename_i b hb
  simp only[Option.some.injEq] at h;subst h
  simp only[G,stepG,stepG.exec,hb]
 ·split at h<;>try (cases h;done)
  rename_i b hb
  simp only[Option.some.injEq] at h;subst h
  simp[G,stepG,stepG.exec,hb]
 split at h<;>try (cases h;done)
 rename_i hw
 simp only[Option.some.injEq] at h;subst h
 simp only[G,stepG,stepG.exec,hw]
 simp
inductive OV where
 |go (fr:Frame) (iP:List Frame)
 |ret (v:Value)
 |arq
 |block
abbrev OVs:=Option (OV×List (Nat×Value)×List Event×List Nat)
def uY(P:Program)(fn:FuncId)(es:List Event):List Event:=(seen P fn es.toArray).toList
def W7:CallKind→Bool
 | .early=>true
 |_=>false
def adj(P:Program)(ty:TypeId)(c:Le)(fr:Frame)(iP:List Frame):OVs:=
 match fr.todo with
 | .inRegion ops (i::_)::_=>bif ((ops[i]?).map (Region.wanted · (yielded ops fr.tmps))).getD false&& !(W7 fr.kind) then (match fr.roundOf,fr.oper? with
  |none,some o=>match ve P ty (execOp fr.eval o) c with
   |some ⟨.ok (.value v),ws,es,bs⟩=>some (.go (fr.finish v) iP,ws,uY P fr.fn es,bs)
   |some ⟨.ok .skip,ws,es,bs⟩=>some (.go (fr.finish undef) iP,ws,uY P fr.fn es,bs)
   |some ⟨.ok (.enter f args),ws,es,bs⟩=>some (.go (Frame.enter P f args .normal) (fr::iP),ws,uY P fr.fn es,bs)
   |some ⟨.ok (.defer d),ws,es,bs⟩=>some (.go ({fr with defers:=d::fr.defers}.finish undef) iP,ws,uY P fr.fn es,bs)
   |some ⟨.halt .blocked,ws,_,bs⟩=>some (.block,ws,[],bs)
   |_=>none
  |_,_=>none) else none
 |_=>none
def aBy:Target→Bool
 | .fn .. =>true
 |_=>false
def aqR(P:Program)(ty:TypeId)(c:Le)(fr:Frame)(iP:List Frame):OVs:=
 match fr.defers with
 | []=>match P.funcs[fr.fn]? with
  |some fn=>match ve P ty (results fn fr.tmps) c with
   |some ⟨.ok v,ws,es,bs⟩=>match iP with
    |q::gP=>match fr.kind with
     | .normal=>some (.go (q.finish v) gP,ws,uY P fr.fn es,bs)
     | .deferred=>match q.mode with
      | .returning=>some (.go q gP,ws,uY P fr.fn es,bs)
      |_=>none
     |_=>none
    | []=>match fr.kind with
     | .normal=>some (.ret v,ws,uY P fr.fn es,bs)
     | .deferred=>some (.arq,ws,uY P fr.fn es,bs)
     |_=>none
   |_=>none
  |none=>none
 |d::ds=>bif aBy d.target then (match ve P ty (invoke d.target d.args) c with
  |some ⟨.ok (.value _),ws,es,bs⟩=>some (.go {fr with defers:=ds} iP,ws,uY P fr.fn es,bs)
  |some ⟨.ok (.enter f args),ws,es,bs⟩=>some (.go (Frame.enter P f args .deferred) ({fr with defers:=ds}::iP),ws,uY P fr.fn es,bs)
  |_=>none) else none
def Px(P:Program)(ty:TypeId)(c:Le)(fr:Frame)(iP:List Frame):OVs:=
 match fr.mode with
 | .run=>match awe fr with
  |some od=>some (.go od iP,[],[],[])
  |none=>adj P ty c fr iP
 | .returning=>aqR P ty c fr iP
 |_=>none
def OV.is(P:Program)(main:Bool)(g:Goroutine)(w w':World)(es:Array Event)(cs:List Frame):OV→Prop
 | .go fr iP=>stepG P main g w= .go (G fr (iP++cs)) w' es
 | .ret v=>(∀c Iw,cs=c::Iw→stepG P main g w= .go (G (c.finish v) Iw) w' es)
 | .arq=>(∀c Iw,cs=c::Iw→(c.mode= .returning∨∃ch,c.mode= .panicking [⟨ch,false,true⟩])→stepG P main g w= .go (G c Iw) w' es)
 | .block=>stepG P main g w= .go {g with status:= .blocked} w' es
section
variable {P:Program} {main:Bool} {ty:TypeId} {W:Nat} {c:Le} {fr:Frame} {iP cs:List Frame} {w:World} {o:OV} {ws:List (Nat×Value)} {es:List Event} {bs:List Nat}
theorem toArr(P:Program)(fn:FuncId)(es:List Event):(uY P fn es).toArray=seen P fn es.toArray:=by simp[uY]
theorem adi(hm:fr.mode= .run)(h:adj P ty c fr iP=some (o,ws,es,bs))(hb:∀b∈bs,b=W)(hc:(c=jQ∧bs=[])∨mU ty W w c)(cs:List Frame)(main:Bool):o.is P main (G fr (iP++cs)) w (Mg W w ws) es.toArray cs:=by
 rcases fr with ⟨fn,tmps,todo,defers,mode,kind,ro⟩
 simp only at hm;subst hm
 unfold adj at h
 simp only at h
 split at h<;>try (cases h;done)
 rename_i ops i rest k
 cases hw:(((ops[i]?).map (Region.wanted · (yielded ops tmps))).getD false&& !(W7 kind)) with
 |false=>rw[hw] at h;cases h
 |true=>
 rw[hw] at h;simp only[cond_true] at h
 simp only[Bool.and_eq_true] at hw
 have hk:(kind==CallKind.early)=false:=by cases kind<;>first|rfl|cases hw.2
 split at h<;>try (cases h;done)
 rename_i op ay
 have ij:∀cs,stepG P main (G ⟨fn,tmps,.inRegion ops (i::rest)::k,defers,.run,kind,none⟩ cs) w=stepG.apply P true ⟨fn,tmps,.inRegion ops (i::rest)::k,defers,.run,kind,none⟩ cs none (execOp (Frame.eval ⟨fn,tmps,.inRegion ops (i::rest)::k,defers,.run,kind,none⟩) op) w:=by
  intro cs
  simp only[G,stepG,stepG.exec,hw.1,if_true,stepG.oper,ay]
 split at h<;>try (cases h;done)
 all_goals
  rename_i heq hv
  simp only[Option.some.injEq,Prod.mk.injEq] at h
  obtain⟨rfl,rfl,rfl,rfl⟩:=h
  have bQ:=Ly _ (w:=w) #[] hv hb hc
  simp only[RH.to,Array.empty_append] at bQ
  simp only[OV.is]
  rw[ij]
  simp only[stepG.apply,bQ,if_true,hk,Bool.false_eq_true,if_false,GStep.after,Array.append_empty,G,toArr]
 all_goals first|rfl| (simp[seen_none];done)
theorem akb(hm:fr.mode= .returning)(h:aqR P ty c fr iP=some (o,ws,es,bs))(hb:∀b∈bs,b=W)(hc:(c=jQ∧bs=[])∨mU ty W w c)(cs:List Frame)(main:Bool):o.is P main (G fr (iP++cs)) w (Mg W w ws) es.toArray cs:=by
 rcases fr with ⟨fn,tmps,todo,defers,mode,kind,ro⟩
 simp only at hm;subst hm
 unfold aqR at h
 simp only at h
 split at h
 ·split at h<;>try (cases h;done)
  rename_i f hf
  split at h<;>try (cases h;done)
  rename_i v ws' eH w9 hv
  have bQ:=fun hb hc=>Ly _ (w:=w) #[] hv (W:=W) hb hc
  simp only[RH.to,Array.empty_append] at bQ
  have key:(∀b∈w9,b=W)→((c=jQ∧w9=[])∨mU ty W w c)→∀cs,stepG P main (G ⟨fn,tmps,todo,[],.returning,kind,ro⟩ cs) w=GStep.after (seen P fn eH.toArray) (doReturn P main ⟨fn,tmps,todo,[],.returning,kind,ro⟩ cs none v (Mg W w ws')):=by
   intro hb hc cs
   simp only[G,stepG,unwind,hf,bQ hb hc]
  split at h
  ·split at h<;>try (cases h;done)
   ·simp only[Option.some.injEq,Prod.mk.injEq] at h
    obtain⟨rfl,rfl,rfl,rfl⟩:=h
    simp only[OV.is]
    rw[key hb hc]
    simp only[List.cons_append,doReturn,GStep.after,Array.append_empty,toArr,G]
   split at h<;>try (cases h;done)
   rename_i q gP hmq
   simp only[Option.some.injEq,Prod.mk.injEq] at h
   obtain⟨rfl,rfl,rfl,rfl⟩:=h
   simp only[OV.is]
   rw[key hb hc]
   simp only[List.cons_append,doReturn,hmq,GStep.after,Array.append_empty,toArr,G]
  split at h<;>try (cases h;done)
  ·simp only[Option.some.injEq,Prod.mk.injEq] at h
   obtain⟨rfl,rfl,rfl,rfl⟩:=h
   intro q Iw hq
   subst hq
   rw[key hb hc]
   simp only[List.nil_append,doReturn,GStep.after,Array.append_empty,toArr,G]
  simp only[Option.some.injEq,Prod.mk.injEq] at h
  obtain⟨rfl,rfl,rfl,rfl⟩:=h
  intro q Iw hq hmq
  subst hq
  rw[key hb hc]
  rcases hmq with hmq| ⟨ch,hmq⟩
  ·simp only[List.nil_append,doReturn,hmq,GStep.after,Array.append_empty,toArr,G]
  simp only[List.nil_append,doReturn,hmq,GStep.after,Array.append_empty,toArr,G]
 rename_i d ds
 cases hd:aBy d.target with
 |false=>rw[hd] at h;cases h
 |true=>
 rw[hd] at h;simp only[cond_true] at h
 rcases d with ⟨tg,args⟩
 cases tg with
 |fn f cap=>
  split at h<;>try (cases h;done)
  all_goals
   rename_i hv
   simp only[Option.some.injEq,Prod.mk.injEq] at h
   obtain⟨rfl,rfl,rfl,rfl⟩:=h
   have bQ:=Ly _ (w:=w) #[] hv hb hc
   simp only[RH.to,Array.empty_append] at bQ
   simp only[OV.is]
   simp only[G,stepG,unwind,callDeferred,bQ,GStep.after,toArr,Array.append_empty,Bool.false_and,Bool.false_eq_true,if_false,List.cons_append]
 |_=>cases hd
theorem rC(h:Px P ty c fr iP=some (o,ws,es,bs))(hb:∀b∈bs,b=W)(hc:(c=jQ∧bs=[])∨mU ty W w c)(cs:List Frame)(main:Bool):o.is P main (G fr (iP++cs)) w (Mg W w ws) es.toArray cs:=by
 unfold Px at h
 split at h<;>try (cases h;done)
 ·rename_i hm
  split at h
  ·rename_i od Z6
   simp only[Option.some.injEq,Prod.mk.injEq] at h
   obtain⟨rfl,rfl,rfl,rfl⟩:=h
   exact am7 hm Z6 w
  exact adi hm h hb hc cs main
 rename_i hm
 exact akb hm h hb hc cs main
end
def ah2:Event→Option (Nat×Nat×List Nat)
 | ⟨.mark .disable,false,true⟩=>some (1,0,[])
 | ⟨.mark .enable,false,true⟩=>some (2,0,[])
 | ⟨.mark (.releaseMerge ⟨b,o,none⟩),false,true⟩=>some (3,o,[b])
 | ⟨.mark (.acquire ⟨b,o,none⟩),false,true⟩=>some (4,o,[b])
 | ⟨.mark (.read ⟨b,o,none⟩),false,true⟩=>some (5,o,[b])
 | ⟨.mark (.write ⟨b,o,none⟩),false,true⟩=>some (6,o,[b])
 | ⟨.cell ⟨b,o,none⟩,false,true⟩=>some (7,o,[b])
 | ⟨.cell ⟨b,o,none⟩,true,true⟩=>some (8,o,[b])
 |_=>none
def UZ(W:Nat)(x:Nat×Nat):Event:=
 match x.1 with
 |1=>said .disable
 |2=>said .enable
 |3=>said (.releaseMerge ⟨W,x.2,none⟩)
 |4=>said (.acquire ⟨W,x.2,none⟩)
 |5=>said (.read ⟨W,x.2,none⟩)
 |6=>said (.write ⟨W,x.2,none⟩)
 |7=>⟨.cell ⟨W,x.2,none⟩,false,true⟩
 |_=>⟨.cell ⟨W,x.2,none⟩,true,true⟩
theorem ah1{e:Event}{k o:Nat}{bs:List Nat}(h:ah2 e=some (k,o,bs))(hb:∀b∈bs,b=W):e=UZ W (k,o):=by
 unfold ah2 at h
 split at h<;>try (cases h;done)
 all_goals
  simp only[Option.some.injEq,Prod.mk.injEq] at h
  obtain⟨rfl,rfl,rfl⟩:=h
 ·rfl
 ·rfl
 all_goals
  have:=hb _ (List.mem_singleton.2 rfl)
  subst this
  rfl
def HF:List Event→Option (List (Nat×Nat)×List Nat)
 | []=>some ([],[])
 |e::l=>match ah2 e,HF l with
  |some (k,o,b),some (r,bs)=>some ((k,o)::r,b++bs)
  |_,_=>none
theorem KU:∀ {es:List Event} {ks:List (Nat×Nat)} {bs:List Nat},HF es=some (ks,bs)→(∀b∈bs,b=W)→es=ks.map (UZ W)
 | [],ks,bs,h,hb=>by simp only[HF,Option.some.injEq,Prod.mk.injEq] at h;obtain⟨rfl,rfl⟩:=h;rfl
 |e::l,ks,bs,h,hb=>by
  simp only[HF] at h
  split at h<;>try (cases h;done)
  rename_i k o b r w9 h1 h2
  simp only[Option.some.injEq,Prod.mk.injEq] at h
  obtain⟨rfl,rfl⟩:=h
  rw[List.map_cons,←ah1 h1 (fun x hx=>hb x (by simp[hx])),←KU h2 (fun x hx=>hb x (by simp[hx]))]
abbrev Bl:=Option (List Nat)
def aiu:List Nat→Bl→Bl
 |a,some b=>some (a++b)
 |_,none=>none
def both:Bl→Bl→Bl
 |some a,some b=>some (a++b)
 |_,_=>none
def aiz(f:α→Bl):List α→Bl
 | []=>some []
 |x::l=>both (f x) (aiz f l)
theorem NL{a bs:List Nat}{x:Bl}(h:aiu a x=some bs)(hb:∀b∈bs,b=W):(∀b∈a,b=W)∧∃y,x=some y∧∀b∈y,b=W:=by
 cases x with
 |none=>cases h
 |some y=>
  simp only[aiu,Option.some.injEq] at h;subst h
  exact⟨fun b hm=>hb b (by simp[hm]),y,rfl,fun b hm=>hb b (by simp[hm])⟩
theorem Bu{bs:List Nat}{x y:Bl}(h:both x y=some bs)(hb:∀b∈bs,b=W):(∃a,x=some a∧∀b∈a,b=W)∧∃a,y=some a∧∀b∈a,b=W:=by
 cases x with
 |none=>cases h
 |some a=>
  cases y with
  |none=>cases h
  |some b=>
   simp only[both,Option.some.injEq] at h;subst h
   exact⟨⟨a,rfl,fun b hm=>hb b (by simp[hm])⟩,b,rfl,fun b hm=>hb b (by simp[hm])⟩
theorem Fw{f:α→Bl}:∀ {l:List α} {bs:List Nat},aiz f l=some bs→(∀b∈bs,b=W)→∀x∈l,∃a,f x=some a∧∀b∈a,b=W
 | [],_,_,_,x,hx=>by cases hx
 |y::l,bs,h,hb,x,hx=>by
  obtain⟨h1,h2,h3,h4⟩:=Bu h hb
  rcases List.mem_cons.1 hx with rfl|hx
  ·exact h1
  exact Fw h3 h4 x hx
def DN(P:Program)(ty:TypeId):Nat→Frame→List Frame→(Frame→List Frame→Bl)→Bl
 |0,_,_,_=>none
 |n+1,fr,iP,k=>match Px P ty jQ fr iP with
  |some (.go od gP,[],[],bs)=>aiu bs (DN P ty n od gP k)
  |_=>k fr iP
def aqy(P:Program)(ty:TypeId)(c:Le)(fr:Frame)(iP:List Frame):Option (Frame×List Frame×List (Nat×Value)×List (Nat×Nat)×List Nat×List Nat):=
 match Px P ty c fr iP with
 |some (.go od gP,ws,es,bs)=>match HF es with
  |some (ks,b2)=>some (od,gP,ws,ks,bs,b2)
  |none=>none
 |_=>none
def i64(n:Int):Value:= .int .u64 n
def i32(n:Int):Value:= .int .u32 n
def Va:List (Nat×Nat)→List (Nat×Nat)→Bool
 | [],[]=>true
 | (a,b)::l,(c,d)::m=>Nat.beq a c&&(Nat.beq b d&&Va l m)
 |_,_=>false
theorem Yf:∀ {l m:List (Nat×Nat)},Va l m=true→l=m
 | [],[],_=>rfl
 | (a,b)::l,(c,d)::m,h=>by
  simp only[Va,Bool.and_eq_true] at h
  rw[Nat.eq_of_beq_eq_true h.1,Nat.eq_of_beq_eq_true h.2.1,Yf h.2.2]
 | [],_::_,h=>by simp[Va] at h
 |_::_,[],h=>by simp[Va] at h
def aaC:List (Nat×Value)→Option (Nat×IntKind×Int)→Bool
 | [],none=>true
 | [(o,.int k n)],some (o',k',n')=>Nat.beq o o'&&(decide (k=k')&&decide (n=n'))
 |_,_=>false
theorem aaB{l:List (Nat×Value)}(h:aaC l none=true):l=[]:=by
 unfold aaC at h
 split at h
 ·rfl
 ·rename_i heq;cases heq
 cases h
theorem aaA{l:List (Nat×Value)}{o:Nat}{k:IntKind}{n:Int}(h:aaC l (some (o,k,n))=true):l=[(o,.int k n)]:=by
 unfold aaC at h
 split at h
 ·rename_i heq;cases heq
 ·rename_i heq
  cases heq
  simp only[Bool.and_eq_true,decide_eq_true_eq] at h
  rw[Nat.eq_of_beq_eq_true h.1,h.2.1,h.2.2]
 cases h
def D8(P:Program)(ty:TypeId)(c:Le)(m:Bool)(wr:Option (Nat×IntKind×Int))(ks:List (Nat×Nat))(fr:Frame)(iP:List Frame)(k:Frame→List Frame→Bl):Bl:=
 match aqy P ty c fr iP with
 |some (od,gP,ws,ks',b1,b2)=>bif aaC ws wr&&(Va ks' ks&&(!m||b1.isEmpty)) then aiu b1 (aiu b2 (k od gP)) else none
 |none=>none
section
variable {P:Program} {ty:TypeId} {W:Nat}
theorem ajV{c:Le}{gP:List Frame}{ws:List (Nat×Value)}{ks:List (Nat×Nat)}{b1 b2:List Nat}(h:aqy P ty c fr iP=some (od,gP,ws,ks,b1,b2))(h1:∀b∈b1,b=W)(h2:∀b∈b2,b=W)
 {w:World}(hc:(c=jQ∧b1=[])∨mU ty W w c)(cs:List Frame)(main:Bool):stepG P main (G fr (iP++cs)) w= .go (G od (gP++cs)) (Mg W w ws) (ks.map (UZ W)).toArray:=by
 unfold aqy at h
 split at h<;>try (cases h;done)
 rename_i h0
 split at h<;>try (cases h;done)
 rename_i hk
 simp only[Option.some.injEq,Prod.mk.injEq] at h
 obtain⟨rfl,rfl,rfl,rfl,rfl,rfl⟩:=h
 have:=rC h0 h1 hc cs main
 simp only[OV.is] at this
 rw[this,KU hk h2]
def wrote(W:Nat)(w:World):Option (Nat×IntKind×Int)→World
 |none=>w
 |some (o,k,n)=>w.setCell ⟨W,o,none⟩ (.int k n)
theorem iF{c:Le}{m:Bool}{x:Option (Nat×IntKind×Int)}{ks:List (Nat×Nat)}{k:Frame→List Frame→Bl}{bs:List Nat}(h:D8 P ty c m x ks fr iP k=some bs)(hb:∀b∈bs,b=W):
 ∃od gP w9,k od gP=some w9∧(∀b∈w9,b=W)∧∀cs main w,((c=jQ∧m=true)∨mU ty W w c)→stepG P main (G fr (iP++cs)) w= .go (G od (gP++cs)) (wrote W w x) (ks.map (UZ W)).toArray:=by
 unfold D8 at h
 split at h<;>try (cases h;done)
 rename_i od gP ws ks' b1 b2 hv
 cases hq:(aaC ws x&&(Va ks' ks&&(!m||b1.isEmpty))) with
 |false=>rw[hq] at h;cases h
 |true=>
 rw[hq] at h;simp only[cond_true] at h
 simp only[Bool.and_eq_true] at hq
 obtain⟨q1,q2,q3⟩:=hq
 obtain⟨h1,y,hy,ZK⟩:=NL h hb
 obtain⟨h2,z,hz,Et⟩:=NL hy ZK
 refine⟨od,gP,z,hz,Et,fun cs main w hc=>?_⟩
 have:=ajV hv h1 h2 (w:=w) (by
  rcases hc with ⟨hc,hm⟩|hc
  ·subst hm
   simp at q3
   exact .inl ⟨hc,q3⟩
  exact .inr hc) cs main
 rw[this,Yf q2]
 cases x with
 |none=>rw[aaB q1];rfl
 |some x=>
  obtain⟨o,kd,n⟩:=x
  rw[aaA q1];rfl
theorem UG{k:Frame→List Frame→Bl}:∀ {n:Nat} {fr:Frame} {iP:List Frame} {bs:List Nat},DN P ty n fr iP k=some bs→(∀b∈bs,b=W)→
 ∀(T:Frame→List Frame→Prop),(∀od gP w9,k od gP=some w9→(∀b∈w9,b=W)→T od gP)→
 (∀fr iP od gP,(∀cs main w,mU ty W w jQ→stepG P main (G fr (iP++cs)) w= .go (G od (gP++cs)) w #[])→T od gP→T fr iP)→T fr iP
 |0,_,_,_,h,_,_,_,_=>by cases h
 |n+1,fr,iP,bs,h,hb,T,hk,hs=>by
  simp only[DN] at h
  split at h
  ·rename_i od gP b1 h0
   obtain⟨h1,y,hy,ZK⟩:=NL h hb
   refine hs fr iP od gP (fun cs main w hc=>?_) (UG hy ZK T hk hs)
   have:=rC h0 h1 (.inr hc) cs main
   simp only[OV.is] at this
   rw[this];rfl
  exact hk _ _ _ h hb
end
section
variable {ι:Type} (E:ee ι)
theorem GD{w:World}(h:E.live w):mU E.ty E.Wg w jQ:=by
 obtain⟨st,sm,h⟩:=h
 exact⟨_,_,h,by simp,by simp⟩
theorem pg{w:World}(h:WgAt E.ty E.Wg w st sm):mU E.ty E.Wg w (some (i64 st),some (i32 sm)):=⟨_,_,h,by simp[i64],by simp[i32]⟩
theorem ard{w:World}(h:WgAt E.ty E.Wg w st sm):mU E.ty E.Wg w (none,some (i32 sm)):=⟨_,_,h,by simp,by simp[i32]⟩
variable {E}
theorem fR{Stop:Goroutine→Prop}{k:Frame→List Frame→Bl}{bs:List Nat}(h:DN E.P E.ty n fr iP k=some bs)(hb:∀b∈bs,b=E.Wg)
 (hk:∀od gP w9,k od gP=some w9→(∀b∈w9,b=E.Wg)→Stop (G od (gP++cs))):E.pure main Stop (G fr (iP++cs)):=by
 refine UG h hb (fun fr iP=>E.pure main Stop (G fr (iP++cs))) (fun od gP w9 h1 h2=>⟨0,hk _ _ _ h1 h2⟩) fun fr iP od gP h1 ⟨m,hm⟩=>⟨m+1,rfl,_,fun w hw=>h1 cs main w (GD E hw),hm⟩
theorem Nd{L:Nat→Option Obj}{pend d0:Nat}{os:List ι}{s:St}{k:Frame→List Frame→Bl}{bs:List Nat}(h:DN E.P E.ty n fr iP k=some bs)(hb:∀b∈bs,b=E.Wg)
 (hk:∀od gP w9,k od gP=some w9→(∀b∈w9,b=E.Wg)→TC E L Q pend false os d0 (G od (gP++cs)) s):TC E L Q pend false os d0 (G fr (iP++cs)) s:=
 UG h hb (fun fr iP=>TC E L Q pend false os d0 (G fr (iP++cs)) s) hk fun fr iP od gP h1 hT=>VQ rfl (fun w hw=>h1 cs true w (GD E hw)) hT
def goR(P:Program)(ty:TypeId):Nat→Frame→List Frame→Bl
 |0,_,_=>none
 |n+1,fr,iP=>match Px P ty jQ fr iP with
  |some (.go od gP,[],[],[])=>goR P ty n od gP
  |some (.ret (.tuple ⟨[]⟩),[],[],[])=>some []
  |_=>none
theorem UE{c:Frame}:∀ {n:Nat} {fr:Frame} {iP:List Frame} {bs:List Nat},goR P ty n fr iP=some bs→
 ∀(main:Bool) (T:Goroutine→Prop),T (G (c.finish (.tuple #[])) cs)→(∀g g',g.status= .running→g'.status= .running→(∀w,stepG P main g w= .go g' w #[])→T g'→T g)→T (G fr (iP++c::cs))
 |0,_,_,_,h,_,_,_,_=>by cases h
 |n+1,fr,iP,bs,h,main,T,hT,hs=>by
  simp only[goR] at h
  split at h
  ·rename_i od gP h0
   refine hs _ _ rfl rfl (fun w=>?_) (UE h main T hT hs)
   have:=rC (W:=0) (w:=w) h0 (by simp) (.inl ⟨rfl,rfl⟩) (c::cs) main
   simp only[OV.is] at this
   rw[this];rfl
  ·rename_i h0
   refine hs _ _ rfl rfl (fun w=>?_) hT
   have:=rC (W:=0) (w:=w) h0 (by simp) (.inl ⟨rfl,rfl⟩) (c::cs) main
   simp only[OV.is] at this
   have h2:=this c cs rfl
   rw[h2];rfl
  cases h
def PN:List Event→Bool
 | []=>true
 |e::l=>e.mute&&PN l
def goQ(P:Program)(ty:TypeId):Nat→Nat→Frame→List Frame→Bl
 |0,_,_,_=>none
 |n+1,d,fr,iP=>match Px P ty jQ fr iP with
  |some (.go od gP,[],es,[])=>bif PN es then goQ P ty n (deafBehind d es.toArray) od gP else none
  |some (.arq,[],[],[])=>bif Nat.beq d 0 then some [] else none
  |_=>none
theorem PM:∀ {es:List Event},PN es=true→∀e∈es,e.mute=true
 | [],_,e,he=>by cases he
 |x::l,h,e,he=>by
  simp only[PN,Bool.and_eq_true] at h
  rcases List.mem_cons.1 he with rfl|he
  ·exact h.1
  exact PM h.2 e he
theorem UF{c:Frame}{q:Nat}(hc:c.mode= .returning∨∃ch,c.mode= .panicking [⟨ch,false,true⟩])(hq:QuitsD P q 0 (G c cs)):∀ {n d:Nat} {fr:Frame} {iP:List Frame} {bs:List Nat},goQ P ty n d fr iP=some bs→
 ∃q,QuitsD P q d (G fr (iP++c::cs))
 |0,_,_,_,_,h=>by cases h
 |n+1,d,fr,iP,bs,h=>by
  simp only[goQ] at h
  split at h
  ·rename_i od gP es h0
   cases hm:PN es with
   |false=>rw[hm] at h;cases h
   |true=>
   rw[hm] at h;simp only[cond_true] at h
   obtain⟨q',Ii⟩:=UF hc hq h
   refine⟨q'+1,.inr ⟨rfl,_,es.toArray,fun e he=>PM hm e (by simpa using he),fun w=>?_,Ii⟩⟩
   have:=rC (W:=0) (w:=w) h0 (by simp) (.inl ⟨rfl,rfl⟩) (c::cs) false
   simp only[OV.is] at this
   rw[this];rfl
  ·rename_i h0
   cases hd:Nat.beq d 0 with
   |false=>rw[hd] at h;cases h
   |true=>
   have:d=0:=Nat.eq_of_beq_eq_true hd
   subst this
   refine⟨q+1,.ctl rfl (fun w=>?_) hq⟩
   have:=rC (W:=0) (w:=w) h0 (by simp) (.inl ⟨rfl,rfl⟩) (c::cs) false
   simp only[OV.is] at this
   have h2:=this c cs rfl hc
   rw[h2];rfl
  cases h
end
section
variable (P:Program) (ty:TypeId)
abbrev X7(a b:Int):Le:=(some (i64 a),some (i32 b))
abbrev azv:List (Nat×Nat):=[(1,0),(7,1),(8,1),(2,0)]
def aie(f:Frame)(s:List Frame):Bl:=bif mayWake P (G f []) then D8 P ty (X7 0 0) false (some (1,.u32,1)) azv f s (goQ P ty 300 1) else none
def ap2(f:Frame)(s:List Frame):Bl:=D8 P ty (X7 1 0) false (some (0,.u64,0)) [(8,0)] f s fun f s=>DN P ty 300 f s (aie P ty)
def ap3(f:Frame)(s:List Frame):Bl:=D8 P ty (X7 1 0) false none [(7,0)] f s fun f s=>DN P ty 300 f s (ap2 P ty)
def U3(f:Frame)(s:List Frame)(v wt:Nat):Bl:=
 D8 P ty (X7 (((v+1:Nat):Int)*KK+(wt:Int)) 0) false (some (0,.u64,(v:Int)*KK+(wt:Int))) [(7,0),(8,0)] f s fun f s=>bif Nat.beq v 0&&Nat.beq wt 1 then DN P ty 300 f s (ap3 P ty) else goQ P ty 300 1 f s
def ap4(mx:Nat)(f:Frame)(s:List Frame):Bl:=aiz (fun v=>both (U3 P ty f s v 0) (U3 P ty f s v 1)) (List.range mx)
def ap1(mx:Nat)(f:Frame)(s:List Frame):Bl:=D8 P ty jQ true none [(1,0)] f s fun f s=>DN P ty 300 f s (ap4 P ty mx)
def ap0(mx:Nat)(f:Frame)(s:List Frame):Bl:=D8 P ty jQ true none [(3,0)] f s fun f s=>DN P ty 300 f s (ap1 P ty mx)
def xL(mx:Nat)(f:Frame):Bl:=DN P ty 300 f [] (ap0 P ty mx)
def ap5(f:Frame)(s:List Frame):Bl:=D8 P ty jQ true none [(4,0)] f s (goR P ty 300)
def X6(f:Frame)(s:List Frame):Bl:=D8 P ty jQ true none [(2,0)] f s fun f s=>DN P ty 300 f s (ap5 P ty)
def apX(f:Frame)(s:List Frame):Bl:=D8 P ty (X7 0 0) false none [(7,0)] f s fun f s=>DN P ty 300 f s (X6 P ty)
def aG9(c:Le)(f:Frame)(s:List Frame):Bl:=match Px P ty c f s with
 |some (.block,[],[],bs)=>some bs
 |_=>none
def apY(f:Frame)(s:List Frame):Bl:=both (aG9 P ty (none,some (i32 0)) f s) (D8 P ty (X7 0 1) false (some (1,.u32,0)) azv f s fun f s=>DN P ty 300 f s (apX P ty))
def apW(f:Frame)(s:List Frame):Bl:=D8 P ty jQ true none [(6,1)] f s fun f s=>DN P ty 300 f s (apY P ty)
def apZ(ak8:Frame→List Frame→Bl)(vs:Nat)(f:Frame)(s:List Frame):Bl:=
 both (D8 P ty (X7 ((vs:Int)*KK) 0) false (some (0,.u64,(vs:Int)*KK+1)) [(7,0),(8,0)] f s fun f s=>DN P ty 300 f s (apW P ty))
  (aiz (fun v:Nat=>D8 P ty (X7 ((v:Int)*KK) 0) false none [(7,0)] f s fun f s=>DN P ty 300 f s ak8) (List.range vs))
def Rl:Nat→Frame→List Frame→Bl
 |0,f,s=>D8 P ty (X7 0 0) false none [(7,0)] f s fun f s=>DN P ty 300 f s (X6 P ty)
 |b+1,f,s=>both (D8 P ty (X7 0 0) false none [(7,0)] f s fun f s=>DN P ty 300 f s (X6 P ty))
  (aiz (fun v:Nat=>D8 P ty (X7 (((v+1:Nat):Int)*KK) 0) false none [(7,0)] f s fun f s=>DN P ty 300 f s (apZ P ty (Rl b) (v+1))) (List.range (b+1)))
def Bp(mx:Nat)(f:Frame):Bl:=DN P ty 300 f [] fun f s=>D8 P ty jQ true none [(1,0)] f s fun f s=>DN P ty 300 f s (Rl P ty mx)
def HL(v:Nat)(f:Frame):Bl:=
 DN P ty 300 f [] fun f s=>D8 P ty jQ true none [(1,0)] f s fun f s=>DN P ty 300 f s fun f s=>
  D8 P ty (X7 ((v:Int)*KK) 0) false (some (0,.u64,((v+1:Nat):Int)*KK)) [(7,0),(8,0)] f s fun f s=>DN P ty 300 f s fun f s=>
   bif Nat.beq v 0 then D8 P ty jQ false none [(5,1)] f s fun f s=>DN P ty 300 f s fun f s=>D8 P ty jQ true none [(2,0)] f s (goR P ty 300)
   else D8 P ty jQ true none [(2,0)] f s (goR P ty 300)
end
section
variable {ι:Type} {E:ee ι}
section leave
variable {c:Frame} {cs:List Frame} (hc:c.mode= .returning∨∃ch,c.mode= .panicking [⟨ch,false,true⟩]) {q0:Nat} (hq:QuitsD E.P q0 0 (G c cs))
include hc hq
theorem aid{bs:List Nat}(h:aie E.P E.ty f s=some bs)(hb:∀b∈bs,b=E.Wg):E.D4 (G f (s++c::cs)):=by
 unfold aie at h
 cases hm:mayWake E.P (G f []) with
 |false=>rw[hm] at h;cases h
 |true=>
 rw[hm] at h;simp only[cond_true] at h
 obtain⟨f',s',w9,h1,h2,h3⟩:=iF h hb
 exact⟨rfl,hm,_,fun w hw=>h3 _ _ w (.inr (pg E hw)),UF hc hq h1⟩
theorem aif{bs:List Nat}(h:ap2 E.P E.ty f s=some bs)(hb:∀b∈bs,b=E.Wg):E.D3 (G f (s++c::cs)):=by
 obtain⟨f',s',w9,h1,h2,h3⟩:=iF h hb
 exact⟨rfl,_,fun w hw=>h3 _ _ w (.inr (pg E hw)),fR h1 h2 fun _ _ _ k1 k2=>aid hc hq k1 k2⟩
theorem aih{bs:List Nat}(h:ap3 E.P E.ty f s=some bs)(hb:∀b∈bs,b=E.Wg):E.D2 (G f (s++c::cs)):=by
 obtain⟨f',s',w9,h1,h2,h3⟩:=iF h hb
 exact⟨rfl,_,fun w hw=>h3 _ _ w (.inr (pg E hw)),fR h1 h2 fun _ _ _ k1 k2=>aif hc hq k1 k2⟩
theorem aii{bs:List Nat}(h:ap4 E.P E.ty E.max f s=some bs)(hb:∀b∈bs,b=E.Wg):E.D1 (G f (s++c::cs)):=by
 refine⟨rfl,fun v wt hwt hv=>?_⟩
 obtain⟨a,h1,h2⟩:=Fw h hb v (List.mem_range.2 hv)
 have key:∃a,U3 E.P E.ty f s v wt=some a∧∀b∈a,b=E.Wg:=by
  obtain⟨k1,k2⟩:=Bu h1 h2
  match wt,hwt with
  |0,_=>exact k1
  |1,_=>exact k2
 obtain⟨a',k1,k2⟩:=key
 obtain⟨f',s',w9,j1,j2,j3⟩:=iF k1 k2
 refine⟨_,fun w hw=>j3 _ _ w (.inr (pg E hw)),fun hh=>?_,fun hh=>?_⟩
 ·obtain⟨rfl,rfl⟩:=hh
  exact fR j1 j2 fun _ _ _ k1 k2=>aih hc hq k1 k2
 have:(Nat.beq v 0&&Nat.beq wt 1)=false:=by
  cases hx:(Nat.beq v 0&&Nat.beq wt 1) with
  |false=>rfl
  |true=>
   simp only[Bool.and_eq_true] at hx
   exact absurd ⟨Nat.eq_of_beq_eq_true hx.1,Nat.eq_of_beq_eq_true hx.2⟩ hh
 rw[this] at j1;simp only[cond_false] at j1
 exact UF hc hq j1
theorem aic{bs:List Nat}(h:ap1 E.P E.ty E.max f s=some bs)(hb:∀b∈bs,b=E.Wg):E.K1 (G f (s++c::cs)):=by
 obtain⟨f',s',w9,h1,h2,h3⟩:=iF h hb
 exact⟨rfl,_,fun w=>h3 _ _ w (.inl ⟨rfl,rfl⟩),fR h1 h2 fun _ _ _ k1 k2=>aii hc hq k1 k2⟩
theorem aib{bs:List Nat}(h:ap0 E.P E.ty E.max f s=some bs)(hb:∀b∈bs,b=E.Wg):E.R0 (G f (s++c::cs)):=by
 obtain⟨f',s',w9,h1,h2,h3⟩:=iF h hb
 exact⟨rfl,_,fun w=>h3 _ _ w (.inl ⟨rfl,rfl⟩),fR h1 h2 fun _ _ _ k1 k2=>aic hc hq k1 k2⟩
theorem HK{bs:List Nat}(h:xL E.P E.ty E.max f=some bs)(hb:∀b∈bs,b=E.Wg):E.pure false E.R0 (G f (c::cs)):=
 fR (iP:=[]) h hb fun _ _ _ k1 k2=>aib hc hq k1 k2
end leave
section close
variable {c:Frame} {cs:List Frame} {st:St} (hT:eZ E.P false E.Jn (G (c.finish (.tuple #[])) cs) st)
include hT
theorem aij{bs:List Nat}(h:ap5 E.P E.ty f s=some bs)(hb:∀b∈bs,b=E.Wg):E.Aq st (G f (s++c::cs)):=by
 obtain⟨f',s',w9,h1,h2,h3⟩:=iF h hb
 have key:=UE (c:=c) (cs:=cs) h1 false (fun g=>eZ E.P false E.Jn g st) hT fun g g' hg hg' bO hT'=>(ei _ _ _).go hg hg' bO hT'
 obtain⟨tr,iN,hle,ht⟩:=key
 exact⟨rfl,_,fun w=>h3 _ _ w (.inl ⟨rfl,rfl⟩),tr,iN,hle,ht⟩
theorem HJ{bs:List Nat}(h:X6 E.P E.ty f s=some bs)(hb:∀b∈bs,b=E.Wg):E.Ke st (G f (s++c::cs)):=by
 obtain⟨f',s',w9,h1,h2,h3⟩:=iF h hb
 exact⟨rfl,_,fun w=>h3 _ _ w (.inl ⟨rfl,rfl⟩),fR h1 h2 fun _ _ _ k1 k2=>aij hT k1 k2⟩
theorem ah8{bs:List Nat}(h:apX E.P E.ty f s=some bs)(hb:∀b∈bs,b=E.Wg):E.W4 st (G f (s++c::cs)):=by
 obtain⟨f',s',w9,h1,h2,h3⟩:=iF h hb
 exact⟨rfl,_,fun w hw=>h3 _ _ w (.inr (pg E hw)),fR h1 h2 fun _ _ _ k1 k2=>HJ hT k1 k2⟩
theorem ah9{bs:List Nat}(h:apY E.P E.ty f s=some bs)(hb:∀b∈bs,b=E.Wg):E.W3 st (G f (s++c::cs)):=by
 obtain⟨⟨b1,k1,k2⟩,b2,k3,k4⟩:=Bu h hb
 obtain⟨f',s',w9,h1,h2,h3⟩:=iF k3 k4
 refine⟨rfl,rfl,fun w n hw=>?_,_,fun w hw=>h3 _ _ w (.inr (pg E hw)),fR h1 h2 fun _ _ _ k1 k2=>ah8 hT k1 k2⟩
 unfold aG9 at k1
 split at k1<;>try (cases k1;done)
 rename_i h0
 simp only[Option.some.injEq] at k1;subst k1
 have:=rC h0 k2 (w:=w) (.inr (ard E hw)) (c::cs) false
 simp only[OV.is] at this
 rw[this];rfl
theorem ah7{bs:List Nat}(h:apW E.P E.ty f s=some bs)(hb:∀b∈bs,b=E.Wg):E.Wr st (G f (s++c::cs)):=by
 obtain⟨f',s',w9,h1,h2,h3⟩:=iF h hb
 exact⟨rfl,_,fun w=>h3 _ _ w (.inl ⟨rfl,rfl⟩),fR h1 h2 fun _ _ _ k1 k2=>ah9 hT k1 k2⟩
theorem aia{ak8:Frame→List Frame→Bl}{aiI:Goroutine→Prop}(hm:∀f s bs,ak8 f s=some bs→(∀b∈bs,b=E.Wg)→aiI (G f (s++c::cs))){vs:Nat}{bs:List Nat}(h:apZ E.P E.ty ak8 vs f s=some bs)(hb:∀b∈bs,b=E.Wg):
 E.W2 (E.pure false aiI) st vs (G f (s++c::cs)):=by
 obtain⟨⟨b1,k1,k2⟩,b2,k3,k4⟩:=Bu h hb
 obtain⟨f',s',w9,h1,h2,h3⟩:=iF k1 k2
 refine⟨rfl,⟨_,fun w hw=>h3 _ _ w (.inr (pg E hw)),fR h1 h2 fun _ _ _ k1 k2=>ah7 hT k1 k2⟩,fun v hv=>?_⟩
 obtain⟨a,j1,j2⟩:=Fw k3 k4 v (List.mem_range.2 hv)
 obtain⟨f2,s2,bs2,i1,i2,i3⟩:=iF j1 j2
 exact⟨_,fun w hw=>i3 _ _ w (.inr (pg E hw)),fR i1 i2 fun _ _ _ k1 k2=>hm _ _ _ k1 k2⟩
theorem Rj:∀ {b:Nat} {f:Frame} {s:List Frame} {bs:List Nat},Rl E.P E.ty b f s=some bs→(∀b∈bs,b=E.Wg)→E.W1 st b (G f (s++c::cs))
 |0,f,s,bs,h,hb=>by
  simp only[Rl] at h
  obtain⟨f',s',w9,h1,h2,h3⟩:=iF h hb
  exact⟨rfl,_,fun w hw=>h3 _ _ w (.inr (pg E hw)),fR h1 h2 fun _ _ _ k1 k2=>HJ hT k1 k2⟩
 |b+1,f,s,bs,h,hb=>by
  simp only[Rl] at h
  obtain⟨⟨b1,k1,k2⟩,b2,k3,k4⟩:=Bu h hb
  obtain⟨f',s',w9,h1,h2,h3⟩:=iF k1 k2
  refine⟨rfl,⟨_,fun w hw=>h3 _ _ w (.inr (pg E hw)),fR h1 h2 fun _ _ _ k1 k2=>HJ hT k1 k2⟩,fun v hv1 hv2=>?_⟩
  obtain⟨u,rfl⟩:∃u,v=u+1:=⟨v-1,by omega⟩
  obtain⟨a,j1,j2⟩:=Fw k3 k4 u (List.mem_range.2 (by omega))
  obtain⟨f2,s2,bs2,i1,i2,i3⟩:=iF j1 j2
  exact⟨_,fun w hw=>i3 _ _ w (.inr (pg E hw)),fR i1 i2 fun _ _ _ k1 k2=>aia hT (aiI:=E.W1 st b) (fun _ _ _ m1 m2=>Rj m1 m2) k1 k2⟩
theorem HI{bs:List Nat}(h:Bp E.P E.ty E.max f=some bs)(hb:∀b∈bs,b=E.Wg):E.closes st (G f (c::cs)):=
 fR (iP:=[]) h hb fun _ _ _ k1 k2=>by
  obtain⟨f',s',w9,h1,h2,h3⟩:=iF k1 k2
  exact⟨rfl,_,fun w=>h3 _ _ w (.inl ⟨rfl,rfl⟩),fR h1 h2 fun _ _ _ k1 k2=>Rj hT k1 k2⟩
end close
theorem KW{L:Nat→Option Obj}{os:List ι}{s:St}{c:Frame}{bs:List Nat}(h:HL E.P E.ty os.length f=some bs)(hb:∀b∈bs,b=E.Wg)(I5:os.length <E.max)
 (hT:TC E L Q 1 false os 0 (G (c.finish (.tuple #[])) cs) s):TC E L Q 0 false os 0 (G f (c::cs)) s:=by
 have qJ:∀ {f:Frame} {iP:List Frame} {bs:List Nat},D8 E.P E.ty jQ true none [(2,0)] f iP (goR E.P E.ty 300)=some bs→(∀b∈bs,b=E.Wg)→TC E L Q 1 false os 1 (G f (iP++c::cs)) s:=by
  intro f iP bs h hb
  obtain⟨f',s',w9,h1,h2,h3⟩:=iF h hb
  refine E6 (mL:=1) (d':=0) rfl rfl (fun w st sm hw hz _=>⟨w,h3 _ _ w (.inl ⟨rfl,rfl⟩),eX.refl w,by obtain⟨rfl,rfl⟩:=hz rfl;exact hw⟩) (by intro e he;simp[UZ] at he;subst he;exact .inr (.inl rfl)) rfl id ?_
  exact UE (c:=c) (cs:=cs) h1 true (fun g=>TC E L Q 1 false os 0 g s) hT fun g g' hg hg' bO hT'=>VQ hg (fun w _=>bO w) hT'
 refine Nd (iP:=[]) h hb fun f1 s1 b1 k1 k2=>?_
 obtain⟨f',s',w9,h1,h2,h3⟩:=iF k1 k2
 refine E6 (mL:=0) (d':=1) rfl rfl (fun w st sm hw hz _=>⟨w,h3 _ _ w (.inl ⟨rfl,rfl⟩),eX.refl w,by obtain⟨rfl,rfl⟩:=hz rfl;exact hw⟩) (by intro e he;simp[UZ] at he;subst he;exact .inl rfl) rfl id ?_
 refine Nd h1 h2 fun f2 s2 b2 k1 k2=>?_
 obtain⟨f',s',w9,h1,h2,h3⟩:=iF k1 k2
 refine E6 (mL:=1) (d':=1) rfl rfl (fun w st sm hw hz _=>⟨_,h3 _ _ w (.inr ?_),eX.set w 0 _,?_⟩) (by
  intro e he;simp[UZ] at he
  rcases he with rfl|rfl<;>exact oz 0 _) rfl (fun _=>I5) ?_
 ·obtain⟨rfl,rfl⟩:=hz rfl
  exact pg E hw
 ·obtain⟨rfl,rfl⟩:=hz rfl
  exact Go.ConcR.WgAt.setSt hw _
 refine Nd h1 h2 fun f3 s3 b3 k1 k2=>?_
 cases hz:Nat.beq os.length 0 with
 |false=>
  rw[hz] at k1;simp only[cond_false] at k1
  exact qJ k1 k2
 |true=>
  rw[hz] at k1;simp only[cond_true] at k1
  obtain⟨f',s',w9,h1,h2,h3⟩:=iF k1 k2
  refine ake rfl (fun w hw=>h3 _ _ w (.inr (GD E hw)))<|Nd h1 h2 fun f4 s4 b4 k1 k2=>qJ k1 k2
end
def CA(P:Program):Class:=fun main T=>Closed P main T
def acs:Code→Nat
 | .seq a b=>acs a+acs b+1
 |_=>0
def ir(l:List Code):List Code:=l.flatMap ju
section
variable {P:Program} {main:Bool} {T:Goroutine→St→Prop} {b:Frame} {k:List Item} {cs:List Frame} {a:Act} {s:St} {n LF:Nat} {D:List Deferred} {call:bZ} {ops:Array Oper}
 {ρ:aS} {ce e:Env} {m:Mem} {F:Nat×Obj→Prop} {R:Nat→Option Obj}
abbrev On(T:Goroutine→St→Prop)(b:Frame)(a:Act)(l:List Code)(k:List Item)(cs:List Frame)(s:St):Prop:=T (G (aK b a (l.map .code++k)) cs) s
theorem oe(hT:Closed P main T){c0:Code}:∀ {l:List Code},ir l=c0::rest→(∀l',ir l'=rest→T (G (aK b a (.code c0::(l'.map .code++k))) cs) s)→On T b a l k cs s:=by
 intro l
 generalize hn:(l.map acs).sum=q
 induction q using Nat.strongRecOn generalizing l with
 |_ q ih=>
  intro hl h
  cases l with
  |nil=>cases hl
  |cons c l=>
   cases hc:c with
   |seq x y=>
    subst hc
    refine hT.go rfl rfl (g':=G (aK b a ((x::y::l).map .code++k)) cs) (fun w=>by simp[G,stepG,stepG.exec,aK])<|ih ((x::y::l).map acs).sum ?_ rfl ?_ h
    ·rw[←hn];simp[acs];omega
    rw[←hl];simp[ir,ju]
   |_=>
    subst hc
    simp only[ir,List.flatMap_cons,ju,List.singleton_append,List.cons.injEq] at hl
    obtain⟨rfl,hl⟩:=hl
    exact h l hl
theorem dQ(hT:Closed P main T)(hl:ir l= .region id ops false::rest)(h:∀l',ir l'=rest→T (G (aK b a (.inRegion ops (List.range ops.size)::(l'.map .code++k))) cs) s):On T b a l k cs s:=
 oe hT hl fun l' zc=>hT.go rfl rfl (g':=G (aK b a (.inRegion ops (List.range ops.size)::(l'.map .code++k))) cs) (fun w=>by simp[G,stepG,stepG.exec,aK]) (h l' zc)
theorem AN(hT:Closed P main T){c:Operand}{x y:Code}{t:Bool}(hl:ir l= .cond c x y::rest)(hc:a.eval c= .bool t)(h:∀l',ir l'=rest→T (G (aK b a (.code (if t then x else y)::(l'.map .code++k))) cs) s):On T b a l k cs s:=
 oe hT hl fun l' zc=>hT.go rfl rfl (g':=G (aK b a (.code (if t then x else y)::(l'.map .code++k))) cs) (fun w=>by
  have he:=lg b a (.code (.cond c x y)::(l'.map .code++k))
  simp only[aK] at he
  simp only[G,stepG,stepG.exec,aK,he,hc]) (h l' zc)
theorem wx(hT:Closed P main T){c:Code}(hl:ir l= .block id c::rest)(h:∀l',ir l'=rest→On T b a [c] (.inBlock id::(l'.map .code++k)) cs s):On T b a l k cs s:=
 oe hT hl fun l' zc=>hT.go rfl rfl (g':=G (aK b a (.code c:: .inBlock id::(l'.map .code++k))) cs) (fun w=>by simp[G,stepG,stepG.exec,aK]) (show T (G (aK b a (.code c:: .inBlock id::(l'.map .code++k))) cs) s from h l' zc)
theorem C1(hT:Closed P main T)(h:T (G (aK b a k) cs) s):T (G (aK b a (.inBlock id::k)) cs) s:=
 hT.go rfl rfl (g':=G (aK b a k) cs) (fun w=>by simp[G,stepG,stepG.exec,aK]) h
theorem Mo(hT:Closed P main T){c:Code}(hl:ir l= .loop c::rest)(h:∀l',ir l'=rest→On T b a [c] (.inLoop c::(l'.map .code++k)) cs s):On T b a l k cs s:=
 oe hT hl fun l' zc=>hT.go rfl rfl (g':=G (aK b a (.code c:: .inLoop c::(l'.map .code++k))) cs) (fun w=>by simp[G,stepG,stepG.exec,aK]) (show T (G (aK b a (.code c:: .inLoop c::(l'.map .code++k))) cs) s from h l' zc)
theorem zw(hT:Closed P main T){c:Code}(h:On T b a [c] (.inLoop c::k) cs s):T (G (aK b a (.inLoop c::k)) cs) s:=
 hT.go rfl rfl (g':=G (aK b a (.code c:: .inLoop c::k)) cs) (fun w=>by simp[G,stepG,stepG.exec,aK]) h
theorem Nr(hT:Closed P main T)(h:T (G (aK b a k) cs) s):T (G (aK b a (.code .skip::k)) cs) s:=
 hT.go rfl rfl (g':=G (aK b a k) cs) (fun w=>by simp[G,stepG,stepG.exec,aK]) h
theorem Ns(hT:Closed P main T){k':List Item}(hk:exitTo id k=some k')(h:T (G (aK b a k') cs) s):T (G (aK b a (.code (.exit id)::k)) cs) s:=
 hT.go rfl rfl (g':=G (aK b a k') cs) (fun w=>by simp[G,stepG,stepG.exec,aK,hk]) h
theorem iK(hT:Closed P main T)(h:T (G (aK b a k) cs) s):T (G (aK b a (.inRegion ops []::k)) cs) s:=
 hT.go rfl rfl (g':=G (aK b a k) cs) (fun w=>by simp[G,stepG,stepG.exec,aK]) h
theorem qQ(id:Nat):∀(l:List Code) (k:List Item),exitTo id (l.map .code++k)=exitTo id k
 | [],k=>rfl
 |c::l,k=>by
  rw[List.map_cons,List.cons_append]
  exact qQ id l k
theorem th(hT:Closed P main T){rest:List Nat}{o:Oper}(ho:ops[i]?=some o) (hw:Region.wanted o (yielded ops a.tmps)=true) (hk:b.kind≠ .early) (hb:b.roundOf=none)
 (h:bL P (execOp a.eval o) s (fun nx s'=>∃v,nx= .value v∧T (G (aK b (a.put o.dst v) (.inRegion ops rest::k)) cs) s') (fun _ _=>False)):T (G (aK b a (.inRegion ops (i::rest)::k)) cs) s:=by
 have j8:(b.kind==CallKind.early)=false:=by simpa using hk
 have ij:∀w,stepG P main (G (aK b a (.inRegion ops (i::rest)::k)) cs) w=stepG.apply P true (aK b a (.inRegion ops (i::rest)::k)) cs none (execOp a.eval o) w:=by
  intro w
  have he:=lg b a (.inRegion ops (i::rest)::k)
  simp only[aK] at he
  simp only[G,stepG,stepG.exec,aK,ho,Option.map_some,Option.getD_some,hw,if_true,stepG.oper,Frame.oper?,he]
  rw[hb]
 refine hT.step _ _ rfl fun w pY=>?_
 obtain⟨r,es,hr,hl⟩:=iy _ _ _ _ w #[] h pY
 rw[Array.empty_append] at hr
 have nt:=ij w
 simp only[stepG.apply,if_true,hr] at nt
 simp only[aK,j8,Bool.false_eq_true,if_false] at nt
 cases r with
 |ok nx w'=>
  obtain⟨s',ht,v,rfl,hv⟩:=hl
  simp only[GStep.after,Array.append_empty] at nt
  have mY:=fZ b a ops i rest k v
  rw[ho] at mY
  simp only[Option.bind_some] at mY
  rw[←mY] at hv
  exact⟨_,_,_,s',nt,rfl,ht.sub (iS P b.fn es),hv⟩
 |halt hh w'=>
  obtain⟨s',ht,hu⟩:=hl
  exact hu.elim
theorem dF(o:Oper)(f:Nat→Option Bool)(h:o.guard=none):Region.wanted o f=true:=by unfold Region.wanted;rw[h]
end
def St.freeze(s:St):St:=⟨fun b=>match s.rw.find? (fun x=>x.1==b) with
 |some x=>some x.2
 |none=>s.ro b,[]⟩
theorem oV{l:List (Nat×Obj)}{b:Nat}{x:Nat×Obj}(h:l.find? (fun x=>x.1==b)=some x):x∈l∧x.1=b:=
 ⟨List.mem_of_find?_eq_some h,by simpa using List.find?_some h⟩
theorem wQ{l:List (Nat×Obj)}(hn:(l.map (·.1)).Nodup){b:Nat}(h:(b,o)∈l):l.find? (fun x=>x.1==b)=some (b,o):=by
 induction l with
 |nil=>cases h
 |cons y l ih=>
  rw[List.map_cons,List.nodup_cons] at hn
  rcases List.mem_cons.1 h with rfl|h'
  ·simp
  have:y.1≠b:=fun e=>hn.1 (e▸List.mem_map.2 ⟨_,h',rfl⟩)
  rw[List.find?_cons_of_neg (by simpa using this)]
  exact ih hn.2 h'
theorem St.CQ(s:St):s.freeze.le s:=by
 refine⟨s.rw,by simp[St.freeze],fun b o h=>?_⟩
 simp only[St.freeze] at h
 split at h
 ·rename_i x hx
  obtain⟨h1,h2⟩:=oV hx
  cases h
  subst h2
  exact .inr h1
 exact .inl h
theorem St.n9{s:St}{b:Nat}(h:s.ro b=some o)(ha:∀b o,(b,o)∈s.rw→s.ro b=none):s.freeze.ro b=some o:=by
 simp only[St.freeze]
 split
 ·rename_i x hx
  obtain⟨h1,h2⟩:=oV hx
  subst h2
  rw[ha x.1 x.2 h1] at h;cases h
 exact h
theorem St.tB{s:St}{b:Nat}(h:(b,o)∈s.rw)(hn:(s.rw.map (·.1)).Nodup):s.freeze.ro b=some o:=by
 simp only[St.freeze,wQ hn h]
section
variable {P:Program} {ρ:aS} {m:Mem} {F:Nat×Obj→Prop} {R:Nat→Option Obj} {s:St}
theorem Closed.ki(hT:Closed P main T)(hs:g.status= .running)(h:(∃w,aQ s w)→T g s):T g s:=by
 by_cases ha:∃w,aQ s w
 ·exact h ha
 exact hT.step _ _ hs fun w hw=>absurd ⟨w,hw⟩ ha
end
section
variable {P:Program} {main:Bool} {T:Goroutine→St→Prop} {b:Frame} {k:List Item} {cs:List Frame} {a:Act} {s:St} {n LF:Nat} {D:List Deferred} {call:bZ} {ops:Array Oper}
 {ρ:aS} {ce e:Env} {m:Mem} {F:Nat×Obj→Prop} {R:Nat→Option Obj}
theorem Pu(hT:Closed P main T){rest:List Nat}{o:Oper}(ho:ops[i]?=some o) (hg:o.guard=none) (hk:b.kind≠ .early) (hb:b.roundOf=none) {f:FuncId} (ay:o.op= .call ⟨.value (.func f),xs,ats⟩) (hf:FF P f)
 (h:T (G (Frame.enter P f (xs.map a.eval) .normal) (aK b a (.inRegion ops (i::rest)::k)::cs)) s):T (G (aK b a (.inRegion ops (i::rest)::k)) cs) s:=by
 have j8:(b.kind==CallKind.early)=false:=by simpa using hk
 have hw:Region.wanted o (yielded ops a.tmps)=true:=dF o _ hg
 have wF:bL P (execOp a.eval o) s (fun nx s'=>nx= .enter f (xs.map a.eval)∧s'=s) (fun _ _=>False):=by
  have e1:a.eval (.func f)= .func (.func f) #[] #[]:=rfl
  simp only[execOp,ay,resolve,e1,Deferred.ofValue,aa,ae,invoke]
  have:(#[]++xs.map a.eval:Array Value)++ #[]=xs.map a.eval:=by simp
  rw[this]
  exact kJ hf ⟨rfl,rfl⟩
 have ij:∀w,stepG P main (G (aK b a (.inRegion ops (i::rest)::k)) cs) w=stepG.apply P true (aK b a (.inRegion ops (i::rest)::k)) cs none (execOp a.eval o) w:=by
  intro w
  have he:=lg b a (.inRegion ops (i::rest)::k)
  simp only[aK] at he
  simp only[G,stepG,stepG.exec,aK,ho,Option.map_some,Option.getD_some,hw,if_true,stepG.oper,Frame.oper?,he]
  rw[hb]
 refine hT.step _ _ rfl fun w pY=>?_
 obtain⟨r,es,hr,hl⟩:=iy _ _ _ _ w #[] wF pY
 rw[Array.empty_append] at hr
 have nt:=ij w
 simp only[stepG.apply,if_true,hr] at nt
 simp only[aK,j8,Bool.false_eq_true,if_false] at nt
 cases r with
 |ok nx w'=>
  obtain⟨s',ht,rfl,rfl⟩:=hl
  simp only[GStep.after,Array.append_empty] at nt
  exact⟨_,_,_,_,nt,rfl,ht.sub (iS P b.fn es),h⟩
 |halt hh w'=>
  obtain⟨s',ht,hu⟩:=hl
  exact hu.elim
def cJ(P:Program):Frame:={(default:Frame) with fn:=P.funcs.size,defers:=[],mode:= .panicking [goexitEntry]}
theorem Pg(P:Program):QuitsD P 1 0 (G (cJ P) []):=by
 have hc:(cJ P).catches P=false:=by
  simp[Frame.catches,cJ]
  rfl
 refine .ctl (g':={(G (cJ P) []) with status:= .finished}) rfl (fun w=>?_) ⟨rfl,rfl⟩
 have bO:stepG P false (G (cJ P) []) w=unwind P false (cJ P) [] none w:=rfl
 rw[bO]
 unfold unwind
 have h1:(cJ P).defers=[]:=rfl
 have h2:(cJ P).mode= .panicking [goexitEntry]:=rfl
 simp only[h1,h2,hc,Bool.false_eq_true,if_false]
 simp[goexitEntry,G]
theorem oB{fn:Func}(hm:fr.mode= .returning)(hd:fr.defers=[])(hk:fr.kind= .deferred)(hf:P.funcs[fr.fn]?=some fn) (hr:fn.results= #[]):QuitsD P 2 0 (G fr [cJ P]):=by
 refine .ctl rfl (fun w=>?_) (Pg P)
 have h1:∀tm,results fn tm=Sem.pure (.tuple #[]):=by intro tm;simp[results,hr];rfl
 rcases fr with ⟨fn',tmps,todo,defers,mode,kind,ro⟩
 simp only at hm hd hk hf
 subst hm hd hk
 simp only[G,stepG,unwind,hf,h1,Sem.runT,seen_none,GStep.after,doReturn,cJ,goexitEntry,Array.append_empty]
end
structure Ry where
 f:FuncId
 n:Nat
 cl:List Code
 o7:Array Oper
 o:Oper
 sc:Operand
 sv:Operand
 done:FuncId
def goE(P:Program)(ty:TypeId):Nat→Frame→List Frame→Option (Frame×List Frame)
 |0,fr,iP=>some (fr,iP)
 |n+1,fr,iP=>match Px P ty jQ fr iP with
  |some (.go od gP,[],[],[])=>goE P ty n od gP
  |_=>none
theorem UH{T:Goroutine→Prop}(hs:∀g g',g.status= .running→g'.status= .running→(∀w,stepG P main g w= .go g' w #[])→T g'→T g):∀ {n:Nat} {fr od:Frame} {iP gP:List Frame},goE P ty n fr iP=some (od,gP)→T (G od (gP++cs))→T (G fr (iP++cs))
 |0,fr,od,iP,gP,h,hT=>by simp only[goE,Option.some.injEq,Prod.mk.injEq] at h;obtain⟨rfl,rfl⟩:=h;exact hT
 |n+1,fr,od,iP,gP,h,hT=>by
  simp only[goE] at h
  split at h<;>try (cases h;done)
  rename_i f1 s1 h0
  refine hs _ _ rfl rfl (fun w=>?_) (UH hs h hT)
  have:=rC (W:=0) (w:=w) h0 (by simp) (.inl ⟨rfl,rfl⟩) cs main
  simp only[OV.is] at this
  rw[this];rfl
theorem HT{f:FuncId}(hf:FF P f)(ca:Array Value)(w:World):stepG P main (born P {target:= .fn (.func f) ca,args:= #[]}) w= .go (G (Frame.enter P f (#[]++ca) .deferred) [cJ P]) w #[]:=by
 obtain⟨fn,h1,h2,h3⟩:=hf.ff
 have bQ:(callFunc f (#[]++ca)).runT P w #[]=(.ok (.enter f (#[]++ca)) w,#[]):=by
  show (Sem.program _).runT P w #[]=_
  simp only[Sem.runT,Sem.bind,h1,h2,h3,Bool.false_eq_true,if_false]
  rfl
 simp only[born,stepG,unwind,callDeferred,invoke,bQ,GStep.after,seen_none,Bool.false_and,Bool.false_eq_true,if_false,Array.append_empty,G,cJ]
structure Ld where
 f:FuncId
 n:Nat
 b:Frame
 q0:Array Oper
 o0:Oper
 rest:Code
 q1:Array Oper
 oc:Oper
 cx:Operand
 wait:FuncId
structure Ld.OK(P:Program)(ty:TypeId)(x:Ld):Prop where
 ff:BI P x.f=true
 fn:∃fn,P.funcs[x.f]?=some fn∧fn.results= #[]∧fn.norace=false
 bf:x.b.fn=x.f∧x.b.kind= .deferred∧x.b.roundOf=none
 enter:∀p1 p2:Value,goE P ty 3 (Frame.enter P x.f #[p1,p2] .deferred) []=some (Frame.enter P x.wait #[p1] .normal,[aK x.b (A x.n (gv 0 [p1,p2]) []) [.inRegion x.q0 [0],.code x.rest]])
 op0:x.q0[0]?=some x.o0
 rest:∃id,ir [x.rest]=[.region id x.q1 false]
 size:x.q1.size=2
 op:x.q1[1]?=some x.oc∧x.oc.guard=none∧∃ats,x.oc.op= .call {callee:= .builtin .close,args:= #[x.cx],argTypes:=ats}
theorem gX(h:ir l=[]):l=[]:=by
 cases l with
 |nil=>rfl
 |cons y l=>
  exfalso
  have:∀c:Code,ju c≠[]:=by
   intro c
   induction c with
   |seq p q ihp ihq=>simp[ju,ihp]
   |_=>simp[ju]
  simp only[ir,List.flatMap_cons,List.append_eq_nil_iff] at h
  exact this y h.1
theorem CY{b:Frame}(h:b.roundOf=none)(a:Act)(todo:List Item):aK b a todo=b.at a todo:=by simp[aK,Frame.at,h]
def Tk(P:Program):Sem Next→Nat→Option (Obj×Value)
 | .new o k,b=>match bn P (k b) with
  |some (.value v)=>some (o,v)
  |_=>none
 | .program k,b=>Tk P (k P) b
 |_,_=>none
theorem Gv{f:Nat→Value}{s:St}{K:Next→St→Prop}{E:Halt→St→Prop}(hK:∀b,¬s.knows b→K (.value (f b)) ⟨s.ro,(b,o)::s.rw⟩):∀(x:Sem Next),(∀b,Tk P x b=some (o,f b))→bL P x s K E:=by
 intro x
 induction x with
 |new o' k ih=>
  intro h b hb
  have h':=h b
  simp only[Tk] at h'
  split at h'<;>try (cases h';done)
  rename_i v hv
  simp only[Option.some.injEq,Prod.mk.injEq] at h'
  obtain⟨rfl,rfl⟩:=h'
  exact oL hv (hK b hb)
 |program k ih=>intro h;exact ih P h
 |_=>intro h;have:=h 0;simp[Tk] at this
structure rY where
 f:FuncId
 n:Nat
 fn:Func
 o0:Array Oper
 o1:Array Oper
 o2:Array Oper
 o3:Array Oper
 o4:Array Oper
 o5:Array Oper
 o6:Array Oper
 o7:Array Oper
 o8:Array Oper
 o9:Array Oper
 o10:Array Oper
 o11:Array Oper
 Ce:Array Oper
 o13:Array Oper
 o14:Array Oper
 a1:Oper
 a2:Oper
 a6:Oper
 a7:Oper
 a9:Oper
 Rx:Oper
 lb:Code
 DD:Code
 rb:Code
 uU:Code
 c4:Operand
 c12:Operand
 b0:Nat
 b1:Nat
 b2:Nat
 b3:Nat
 fin:List Code
 add:FuncId
 ant:Operand
 sp:Operand
 sk:Operand
 rc:Operand
 wk:Ry
 cl:Ld
 ty:TypeId
 mx:Nat
def cK(l:List Code)(i:Nat):Array Oper:=match l[i]? with
 |some (.region _ ops _)=>ops
 |_=> #[]
def eV(o:Array Oper)(i:Nat):Oper:=(o[i]?).getD default
def adZ(l:List Code)(i:Nat):Nat×Code:=match l[i]? with
 |some (.block id (.loop c))=>(id,c)
 |_=>(0,.skip)
def Yc(l:List Code)(i:Nat):Nat×Code:=match l[i]? with
 |some (.block id c)=>(id,c)
 |_=>(0,.skip)
def ah0(l:List Code)(i:Nat):Operand:=match l[i]? with
 |some (.cond c _ _)=>c
 |_=> .func 0
def HR(o:Oper):FuncId:=match o.op with
 | .call ⟨.value (.func f),_,_⟩=>f
 | .defer ⟨.value (.func f),_,_⟩=>f
 |_=>0
def aqa(o:Oper)(i:Nat):Operand:=match o.op with
 | .call ⟨_,xs,_⟩=>(xs[i]?).getD (.func 0)
 |_=> .func 0
def aGq(o:Oper):Operand:=match o.op with
 | .go ⟨.value x,_,_⟩=>x
 |_=> .func 0
def apL(o:Oper):FuncId:=match o.op with
 | .makeFunc (.func f) _ _=>f
 |_=>0
def chanOf(o:Oper):Operand:=match o.op with
 | .recv _ c _=>c
 | .send c _=>c
 |_=> .func 0
def are(o:Oper):Operand:=match o.op with
 | .send _ x=>x
 |_=> .func 0
def typeOf(o:Oper):TypeId:=match o.op with
 | .alloc t=>t
 |_=>0
def codeOf(P:Program)(f:FuncId):List Code:=match P.funcs[f]? with
 |some fn=>match fn.body with
  |some c=>ju c
  |none=>[]
 |none=>[]
def tmpsOf(P:Program)(f:FuncId):Nat:=match P.funcs[f]? with
 |some fn=>fn.ntmps
 |none=>0
def ars(P:Program)(f:FuncId):Code:=match P.funcs[f]? with
 |some fn=>match fn.body with
  |some (.seq _ c)=>c
  |_=> .skip
 |none=> .skip
def av7(P:Program)(f:FuncId)(mx:Nat):rY:=
 let l:=codeOf P f
 let lb:=adZ l 4
 let ll:=ju lb.2
 let bb:=Yc ll 2
 let bl:=ju bb.2
 let rb:=adZ l 8
 let rl:=ju rb.2
 let rbb:=Yc rl 2
 let rbl:=ju rbb.2
 let wf:=apL (eV (cK bl 2) 0)
 let wl:=codeOf P wf
 let cf:=apL (eV (cK l 5) 0)
 let cl:=codeOf P cf
 {f,n:=tmpsOf P f,fn:=(P.funcs[f]?).getD default,o0:=cK l 0,o1:=cK l 1,o2:=cK l 2,o3:=cK l 3,o4:=cK ll 0,o5:=cK bl 0,o6:=cK bl 1,o7:=cK bl 2,o8:=cK ll 3,
  o9:=cK l 5,o10:=cK l 6,o11:=cK l 7,Ce:=cK rl 0,o13:=cK rbl 0,o14:=cK rbl 1,
  a1:=eV (cK l 1) 0,a2:=eV (cK l 2) 0,a6:=eV (cK bl 1) 0,a7:=eV (cK bl 2) 1,a9:=eV (cK l 5) 1,Rx:=eV (cK rl 0) 0,
  lb:=lb.2,DD:=bb.2,rb:=rb.2,uU:=rbb.2,c4:=ah0 ll 1,c12:=ah0 rl 1,b0:=lb.1,b1:=bb.1,b2:=rb.1,b3:=rbb.1,fin:=(l.drop 9).dropLast,
  add:=HR (eV (cK bl 1) 0),ant:=aqa (eV (cK bl 1) 0) 0,sp:=aGq (eV (cK bl 2) 1),sk:=aGq (eV (cK l 5) 1),rc:=chanOf (eV (cK rl 0) 0),
  wk:={f:=wf,n:=tmpsOf P wf,cl:=wl.dropLast,o7:=cK wl (wl.length-1),o:=eV (cK wl (wl.length-1)) 2,sc:=chanOf (eV (cK wl (wl.length-1)) 2),sv:=are (eV (cK wl (wl.length-1)) 2),done:=HR (eV (cK wl 0) 0)},
  cl:={f:=cf,n:=tmpsOf P cf,b:={(default:Frame) with fn:=cf,kind:= .deferred,roundOf:=none},q0:=cK cl 0,o0:=eV (cK cl 0) 0,rest:=ars P cf,q1:=cK cl 1,oc:=eV (cK cl 1) 1,cx:=aqa (eV (cK cl 1) 1) 0,wait:=HR (eV (cK cl 0) 0)},
  ty:=typeOf (eV (cK l 2) 0),mx}
theorem xu{k:Nat}:∀b∈List.replicate k W,b=W:=fun b hb=>(List.mem_replicate.1 hb).2
section
variable {iC:Os} {cu:Array (Nat×ByteArray)} {P:Program} {T:Goroutine→St→Prop} {b:Frame} {k:List Item} {cs:List Frame} {a:Act} {s:St} {n LF:Nat} {call:bZ} {ops:Array Oper}
 {ρ:aS} {ce e:Env} {m:Mem} {x:rY} {Wg Ch:Nat} {L:Nat→Option Obj} {Q:Machine→Outcome→World→Trace→Prop}
theorem Fv{rest:List Nat}{o:Oper}(ho:ops[i]?=some o) (hg:o.guard=none) (hk:b.kind≠ .early) (hb:b.roundOf=none) {y:Operand} (ay:o.op= .go ⟨.value y,#[],ats⟩) {f:FuncId} (hy:a.eval y= .func (.func f) #[] ca) (w:World):
 stepG P main (G (aK b a (.inRegion ops (i::rest)::k)) cs) w= .spawn (G (aK b (a.put o.dst undef) (.inRegion ops rest::k)) cs) (born P {target:= .fn (.func f) ca,args:= #[]}) w #[]:=by
 have hw:Region.wanted o (yielded ops a.tmps)=true:=dF o _ hg
 have hx:execOp a.eval o=Sem.pure (.spawn {target:= .fn (.func f) ca,args:= #[]}):=by
  simp only[execOp,ay,resolve,hy,Deferred.ofValue]
  show Sem.pure (Next.spawn {target:= .fn (.func f) ca,args:= #[]++Array.map a.eval #[]})=_
  simp
 rw[CY hb,CY hb]
 have:=stepG_spawn (P:=P) (main:=main) (b:=b) (a:=a) (k:=k) (cs:=cs) (w:=w) (w':=w) (d:={target:= .fn (.func f) ca,args:= #[]}) ho hw hk (rest:=rest) (by rw[hx];rfl) rfl
 rw[this,listed_none (by rw[hx];rfl)]
end
theorem tU:∀ {x:Sem α} {a:α},bn P x=some a→∀(w:World) (es:Array Event),x.runT P w es=(.ok a w,es)
 | .pure _,_,h,w,es=>by simp only[bn,Option.some.injEq] at h;subst h;rfl
 | .program k,_,h,w,es=>tU (x:=k _) h w es
def C0(P:Program):Class:=fun main T=>main=true∧∃iC cu Post,T=T0 P iC cu Post
theorem xM:∀main T,C0 P main T→Closed P main T:=by
 rintro _ _ ⟨rfl,iC,cu,Post,rfl⟩
 exact sX P iC cu Post
abbrev CP(P:Program):Class:=fun main T=>Closed P main T
theorem fg:∀main T,CP P main T→Closed P main T:=fun _ _ h=>h
abbrev Cells:=List (Nat×Obj)
variable {Φ:Value→Cells→Prop} {B X rw' rw:Cells}
def Sub(ro aF:Nat→Option Obj):Prop:=∀b o,ro b=some o→aF b=some o
theorem Sub.refl(ro:Nat→Option Obj):Sub ro ro:=fun _ _ h=>h
theorem Sub.trans{a b c:Nat→Option Obj}(h:Sub a b)(k:Sub b c):Sub a c:=fun x o hx=>k x o (h x o hx)
structure aaU(fr B:Cells)(ro:Nat→Option Obj)(s1 s:St):Prop where
 rw:s.rw.Perm (s1.rw++fr)
 aB:∀b o,s1.ro b=some o→s.ro b=some o∨(b,o)∈B
 keep:Sub ro s.ro
theorem xK(hT:Closed P main T){s:St}(hg:g.status= .running)(h:(∃w,aQ s w)→T g s):T g s:=by
 by_cases hw:∃w,aQ s w
 ·exact h hw
 exact hT.step g s hg fun w pY=>absurd ⟨w,pY⟩ hw
theorem A9(hT:Closed P main T){fr:Cells}(hB:∀x∈B,x∈fr)(ro:Nat→Option Obj):
 Closed P main (fun g s1=>g.status= .running→∀s,aaU fr B ro s1 s→T g s) where
 step:=fun g s1 hg h _ s hc=>by
  refine hT.step g s hg fun w hw=>?_
  have N7:∀x,x∈s.rw↔x∈s1.rw∨x∈fr:=fun x=>by rw[hc.rw.mem_iff,List.mem_append]
  have mN:=(hc.rw.map (·.1)).nodup_iff.1 hw.nodup
  rw[List.map_append,List.nodup_append] at mN
  obtain⟨hn1,hn2,hn3⟩:=mN
  have aDi:∀b o o',(b,o)∈s1.rw→(b,o')∈fr→False:=fun b o o' h1 h2=>hn3 b (List.mem_map.2 ⟨_,h1,rfl⟩) b (List.mem_map.2 ⟨_,h2,rfl⟩) rfl
  have aS9:aQ s1 w:=by
   refine⟨fun b o hb=>?_,fun b o hb=>hw.rw b o ((N7 _).2 (.inl hb)),hn1,fun b o hb=>?_⟩
   ·rcases hc.aB b o hb with h1|h1
    ·exact hw.ro b o h1
    exact hw.rw b o ((N7 _).2 (.inr (hB _ h1)))
   cases hr:s1.ro b with
   |none=>rfl
   |some o'=>
    rcases hc.aB b o' hr with h1|h1
    ·rw[hw.apart b o ((N7 _).2 (.inl hb))] at h1;cases h1
    exact(aDi b o o' hb (hB _ h1)).elim
  obtain⟨g',w',es,yM,bO,bQ,ht,hT'⟩:=h w aS9
  have afI:∀b o,(b,o)∈fr→b <w.heap.size:=fun b o hb=>hw.lt (.inr ((N7 _).2 (.inr hb)))
  have auC:∀b o,(b,o)∈fr→¬s1.jD b:=fun b o hb ⟨o',Fi⟩=>aDi b o' o Fi hb
  have atD:∀b,s.ro b≠none→¬s1.jD b:=fun b hb ⟨o',Fi⟩=>hb (hw.apart b o' ((N7 _).2 (.inl Fi)))
  have aeS:∀b,s.ro b≠none→b <w.heap.size:=fun b hb=>by
   cases hr:s.ro b with
   |none=>exact absurd hr hb
   |some o=>exact hw.lt (.inl hr)
  have aC6:∀b o,(b,o)∈fr→w'.heap[b]?=some o:=fun b o hb=>by
   rw[ht.frame b (afI b o hb) (auC b o hb)]
   exact hw.rw b o ((N7 _).2 (.inr hb))
  classical
  let aF:Nat→Option Obj:=fun b=>if ∃o,(b,o)∈fr then none else match yM.ro b with
   |some o=>some o
   |none=>s.ro b
  have atE:∀b o,aF b=some o→¬(∃o,(b,o)∈fr)∧(yM.ro b=some o∨(yM.ro b=none∧s.ro b=some o)):=fun b o hb=>by
   simp only[aF] at hb
   split at hb
   ·cases hb
   rename_i hn
   refine⟨hn,?_⟩
   cases h1:yM.ro b with
   |none=>rw[h1] at hb;exact .inr ⟨rfl,hb⟩
   |some o2=>rw[h1] at hb;exact .inl hb
  have aS8:aQ ⟨aF,yM.rw++fr⟩ w':=by
   refine⟨fun b o hb=>?_,fun b o hb=>?_,?_,fun b o hb=>?_⟩
   ·obtain⟨_,h1| ⟨_,h2⟩⟩:=atE b o hb
    ·exact ht.ki.ro b o h1
    have eB:s.ro b≠none:=by rw[h2];simp
    rw[ht.frame b (aeS b eB) (atD b eB)]
    exact hw.ro b o h2
   ·rcases List.mem_append.1 hb with hb|hb
    ·exact ht.ki.rw b o hb
    exact aC6 b o hb
   ·show ((yM.rw++fr).map (·.1)).Nodup
    rw[List.map_append,List.nodup_append]
    refine⟨ht.ki.nodup,hn2,fun x hx y hy e=>?_⟩
    obtain⟨⟨b,o⟩,h1,rfl⟩:=List.mem_map.1 hx
    obtain⟨⟨b2,o2⟩,h2,rfl⟩:=List.mem_map.1 hy
    dsimp only at e;subst e
    rcases ht.own b ⟨o,h1⟩ with h3|h3
    ·exact absurd (afI b o2 h2) (by omega)
    exact auC b o2 h2 h3
   show aF b=none
   rcases List.mem_append.1 hb with hb|hb
   ·cases hr:aF b with
    |none=>rfl
    |some o'=>
     obtain⟨hn,h1| ⟨_,h2⟩⟩:=atE b o' hr
     ·rw[ht.ki.apart b o hb] at h1;cases h1
     have eB:s.ro b≠none:=by rw[h2];simp
     rcases ht.own b ⟨o,hb⟩ with h3|h3
     ·exact absurd (aeS b eB) (by omega)
     exact(atD b eB h3).elim
   simp only[aF]
   rw[if_pos ⟨o,hb⟩]
  have aDn:aaU fr B ro yM ⟨aF,yM.rw++fr⟩:=by
   refine⟨.refl _,fun b o hb=>?_,fun b o hb=>?_⟩
   ·by_cases hf:∃o,(b,o)∈fr
    ·obtain⟨o2,Ij⟩:=hf
     have e1:=ht.ki.ro b o hb
     rw[aC6 b o2 Ij] at e1
     cases e1
     rcases ht.Lz b (by rw[hb];simp) with h1|h1|h1
     ·exact absurd (afI b _ Ij) (by omega)
     ·cases hr:s1.ro b with
      |none=>exact absurd hr h1
      |some o3=>
       rcases hc.aB b o3 hr with h3|h3
       ·rw[hw.apart b _ ((N7 _).2 (.inr Ij))] at h3;cases h3
       have e3:=hw.rw b o3 ((N7 _).2 (.inr (hB _ h3)))
       rw[hw.rw b _ ((N7 _).2 (.inr Ij))] at e3
       cases e3
       exact .inr h3
     exact(auC b _ Ij h1).elim
    left
    show aF b=some o
    simp only[aF]
    rw[if_neg hf,hb]
   have h1:=hc.keep b o hb
   have eB:s.ro b≠none:=by rw[h1];simp
   have hf:¬ ∃o,(b,o)∈fr:=fun⟨o2,Ij⟩=>eB (hw.apart b o2 ((N7 _).2 (.inr Ij)))
   show aF b=some o
   simp only[aF]
   rw[if_neg hf]
   cases h2:yM.ro b with
   |none=>exact h1
   |some o2=>
    have e1:=ht.ki.ro b o2 h2
    rw[ht.frame b (aeS b eB) (atD b eB),hw.ro b o h1] at e1
    exact e1.symm
  refine⟨g',w',es,⟨aF,yM.rw++fr⟩,bO,bQ,⟨aS8,ht.size,fun b hb hn=>?_,fun b hb=>?_,fun b hb=>?_,ht.os,ht.output,ht.tape,fun e he=>?_,ht.low⟩,hT' bQ _ aDn⟩
  ·exact ht.frame b hb fun⟨o,ho⟩=>hn ⟨o,(N7 _).2 (.inl ho)⟩
  ·obtain⟨o,ho⟩:=hb
   rcases List.mem_append.1 ho with ho|ho
   ·rcases ht.own b ⟨o,ho⟩ with h3| ⟨o3,h3⟩
    ·exact .inl h3
    exact .inr ⟨o3,(N7 _).2 (.inl h3)⟩
   exact .inr ⟨o,(N7 _).2 (.inr ho)⟩
  ·have hb:aF b≠none:=hb
   cases hr:aF b with
   |none=>exact absurd hr hb
   |some o=>
    obtain⟨hn,h1| ⟨_,h2⟩⟩:=atE b o hr
    ·rcases ht.Lz b (by rw[h1];simp) with h3|h3| ⟨o3,h3⟩
     ·exact .inl h3
     ·cases h4:s1.ro b with
      |none=>exact absurd h4 h3
      |some o4=>
       rcases hc.aB b o4 h4 with h5|h5
       ·exact .inr (.inl (by rw[h5];simp))
       exact absurd ⟨_,hB _ h5⟩ hn
     exact .inr (.inr ⟨o3,(N7 _).2 (.inl h3)⟩)
    exact .inr (.inl (by rw[h2];simp))
  have R2:=ht.vM e he
  have api:∀b,(∃o,(b,o)∈s1.rw)→s.jD b:=fun b ⟨o,ho⟩=>⟨o,(N7 _).2 (.inl ho)⟩
  have aB3:∀b,s1.ro b≠none→s.ro b≠none∨s.jD b:=fun b hb=>by
   cases h4:s1.ro b with
   |none=>exact absurd h4 hb
   |some o4=>
    rcases hc.aB b o4 h4 with h5|h5
    ·exact .inl (by rw[h5];simp)
    exact .inr ⟨o4,(N7 _).2 (.inr (hB _ h5))⟩
  unfold H9 at*
  split at R2
  ·refine⟨R2.1,?_⟩
   rcases R2.2 with h1|h1| ⟨h1,h2⟩
   ·exact .inl h1
   ·exact .inr (.inl (api _ h1))
   rcases aB3 _ h2 with h3|h3
   ·exact .inr (.inr ⟨h1,h3⟩)
   exact .inr (.inl h3)
  ·refine⟨R2.1,?_⟩
   rcases R2.2 with h1|h1| ⟨h1,h2⟩
   ·exact .inl h1
   ·exact .inr (.inl (api _ h1))
   rcases aB3 _ h2 with h3|h3
   ·exact .inr (.inr ⟨h1,h3⟩)
   exact .inr (.inl h3)
  ·exact R2
  exact R2
 mono:=fun g s1 yM hl h bQ s hc=>by
  refine xK hT bQ fun⟨w,hw⟩=>?_
  obtain⟨R,hR,AY⟩:=hl
  have N7:∀x,x∈s.rw↔x∈yM.rw∨x∈fr:=fun x=>by rw[hc.rw.mem_iff,List.mem_append]
  have avk:∀x,x∈R→x∈s.rw:=fun x hx=>(N7 x).2 (.inl (hR.mem_iff.2 (List.mem_append_right _ hx)))
  classical
  let pS:Nat→Option Obj:=fun b=>if hx:∃o,(b,o)∈R then some (Classical.choose hx) else s.ro b
  have GW:∀b o,(b,o)∈R→pS b=some o:=fun b o hb=>by
   have hx:∃o,(b,o)∈R:=⟨o,hb⟩
   simp only[pS]
   rw[dif_pos hx]
   have h1:=hw.rw b _ (avk _ (Classical.choose_spec hx))
   rw[hw.rw b o (avk _ hb)] at h1
   cases h1;rfl
  have iL:∀b o,s.ro b=some o→pS b=some o:=fun b o hb=>by
   simp only[pS]
   rw[dif_neg]
   ·exact hb
   rintro⟨o2,Ij⟩
   rw[hw.apart b o2 (avk _ Ij)] at hb;cases hb
  refine hT.mono g ⟨pS,s1.rw++fr⟩ s ⟨R,?_,fun b o hb=>?_⟩ (h bQ _ ⟨.refl _,fun b o hb=>?_,fun b o hb=>iL b o (hc.keep b o hb)⟩)
  ·refine hc.rw.trans ((List.Perm.append_right fr hR).trans ?_)
   rw[List.append_assoc,List.append_assoc]
   exact List.Perm.append_left _ List.perm_append_comm
  ·simp only[pS] at hb
   split at hb
   ·rename_i hx
    simp only[Option.some.injEq] at hb
    exact .inr (hb▸Classical.choose_spec hx)
   exact .inl hb
  rcases AY b o hb with h1|h1
  ·exact(hc.aB b o h1).imp (iL b o) id
  exact .inl (GW b o h1)
theorem Fn.frame{f:FuncId}{s1 s:St}{R:Ending→St→Prop}{fr:Cells}{ro:Nat→Option Obj}(hf:Fn (CP P) P f args s1 R)(hB:∀x∈B,x∈fr)(hc:aaU fr B ro s1 s):
 Fn (CP P) P f args s (fun en s'=>∃yM,R en yM∧aaU fr B ro yM s'):=
 fun main T hT c cs k1 k2=>hf main _ (A9 hT hB ro) c cs (fun v yM hv _ s' tz=>k1 v s' ⟨yM,hv,tz⟩) (fun ch yM hv _ s' tz=>k2 ch s' ⟨yM,hv,tz⟩) rfl s hc
def eS(P:Program)(f:FuncId)(args:List Value)(ro:Nat→Option Obj)(own:Cells)(Φ:Value→Cells→Prop):Prop:=
 Fn (CP P) P f ⟨args⟩ ⟨ro,own⟩ (fun en s'=>∃v X,en= .returned v∧s'=⟨ro,X⟩∧Φ v X)
abbrev dO(P:Program)(f:FuncId)(args:List Value)(ro:Nat→Option Obj)(V:Value):Prop:=eS P f args ro [] (fun v X=>v=V∧X=[])
theorem eS.mono{f:FuncId}{args:List Value}{ro:Nat→Option Obj}{own:Cells}{Φ':Value→Cells→Prop}(h:eS P f args ro own Φ)(hk:∀v X,Φ v X→Φ' v X):eS P f args ro own Φ':=
 Fn.mono h fun _ _ ⟨v,X,h1,h2,h3⟩=>⟨v,X,h1,h2,hk v X h3⟩
theorem Nj{ro:Nat→Option Obj}:Ext ⟨ro,[]⟩ ⟨ro,rw⟩:=fun _ _ h=>h.elim .inl (fun h=>by cases h)
theorem uB{ro aF:Nat→Option Obj}(h:Sub ro aF):Ext ⟨ro,[]⟩ ⟨aF,[]⟩:=fun b o hb=>hb.elim (fun hb=> .inl (h b o hb)) (fun hb=>by cases hb)
def bE(ro:Nat→Option Obj)(v:Value)(sz:Nat)(enc:α→List Value)(ps:List α):Prop:=
 ∃a b o cap,v= .slice a ps.length cap∧ps.length≤cap∧(∀k,k <ps.length→a=some ⟨b,o,none⟩)∧∀i p,ps[i]?=some p→cv ⟨ro,[]⟩ b (o+i*sz) sz (enc p)
theorem bE.nil(ro:Nat→Option Obj)(sz:Nat)(enc:α→List Value)(a:Option Addr)(cap:Nat):bE ro (.slice a 0 cap) sz enc []:=⟨a,0,0,cap,rfl,Nat.zero_le _,fun k h=>absurd h (Nat.not_lt_zero k),fun i p hp=>by simp at hp⟩
theorem bE.up{ro aF:Nat→Option Obj}{v:Value}{enc:α→List Value}{ps:List α}(h:bE ro v sz enc ps)(hs:Sub ro aF):bE aF v sz enc ps:=by
 obtain⟨a,b,o,cap,h1,h4,h2,h3⟩:=h
 exact⟨a,b,o,cap,h1,h4,h2,fun i p hp=>(h3 i p hp).ext (uB hs)⟩
section rules
variable {P:Program} {C:Class} {fn:FuncId} {aA:Option Nat} {Q:Post} {s:St} {n:Nat} {env:Env} {D:List Deferred}
variable {ops:Array Oper} {i:Nat} {rest:List Nat} {dst:Option Tmp} {ty:TypeId} {pos:String} {c8:Array Edge} {g:Option (Nat×Bool)}
variable {T:TypeId} {d:TypeDesc} {sz bx:Nat} {z:List Value} {ag:Bool} {ro:Nat→Option Obj} {rw:Cells}
theorem ab.more{a:Act}(hC:∀main T,C main T→Closed P main T)(hl:s.le s')(h:ab C fn aA ops todo Q a s):ab C fn aA ops todo Q a s':=
 fun main T hT b k cs h1 h2 h3 h4=>(hC _ _ hT).mono _ _ _ hl (h main T hT b k cs h1 h2 h3 h4)
theorem akQ{a:Act}(hC:∀main T,C main T→Closed P main T)(h:(∃w,aQ s w)→ab C fn aA ops todo Q a s):ab C fn aA ops todo Q a s:=
 fun main T hT b k cs h1 h2 h3 h4=>xK (hC _ _ hT) rfl fun hw=>h hw main T hT b k cs h1 h2 h3 h4
theorem aqt{a:Act}{c:Code}(hC:∀main T,C main T→Closed P main T)(h:(∃w,aQ s w)→Wp C fn aA c Q a s):Wp C fn aA c Q a s:=
 fun main T hT b k cs h1 h2 h3 h4=>xK (hC _ _ hT) rfl fun hw=>h hw main T hT b k cs h1 h2 h3 h4
theorem ahp{f:FuncId}{R:Ending→St→Prop}(hC:∀main T,C main T→Closed P main T)(h:(∃w,aQ s w)→Fn C P f args s R):Fn C P f args s R:=
 fun main T hT c cs h1 h2=>xK (hC _ _ hT) rfl fun hw=>h hw main T hT c cs h1 h2
theorem XL(hp:rw.Perm (X++s.rw))(hw:∃w,aQ ⟨s.ro,rw⟩ w):∃aF,Sub s.ro aF∧(∀x∈X,aF x.1=some x.2)∧(⟨aF,s.rw⟩:St).le ⟨s.ro,rw⟩:=by
 classical
 obtain⟨w,hw⟩:=hw
 have Af:∀x,x∈X→x∈rw:=fun x hx=>hp.mem_iff.2 (List.mem_append_left _ hx)
 refine⟨fun b=>if hx:∃o,(b,o)∈X then some (Classical.choose hx) else s.ro b,fun b o hb=>?_,fun x hx=>?_,X,hp.trans List.perm_append_comm,fun b o hb=>?_⟩
 ·simp only
  rw[dif_neg]
  ·exact hb
  rintro⟨o2,Ij⟩
  have:=hw.apart b o2 (Af _ Ij)
  rw[show s.ro b=none from this] at hb;cases hb
 ·obtain⟨b,o⟩:=x
  have mA:∃o,(b,o)∈X:=⟨o,hx⟩
  simp only
  rw[dif_pos mA]
  have h1:=hw.rw b _ (Af _ (Classical.choose_spec mA))
  rw[hw.rw b o (Af _ hx)] at h1
  cases h1;rfl
 simp only at hb
 split at hb
 ·rename_i hx
  simp only[Option.some.injEq] at hb
  exact .inr (hb▸Classical.choose_spec hx)
 exact .inl hb
theorem Yx{a:Act}{c:Code}(hC:∀main T,C main T→Closed P main T)(hp:rw'.Perm (X++rw))(h:∀aF,Sub ro aF→(∀x∈X,aF x.1=some x.2)→Wp C fn aA c Q a ⟨aF,rw⟩):Wp C fn aA c Q a ⟨ro,rw'⟩:=
 aqt hC fun hw=>by
  obtain⟨aF,h1,h2,h3⟩:=XL (s:=⟨ro,rw⟩) hp hw
  exact(h aF h1 h2).more hC h3
theorem Te{a:Act}(hC:∀main T,C main T→Closed P main T)(hp:rw'.Perm (X++rw))(h:∀aF,Sub ro aF→(∀x∈X,aF x.1=some x.2)→ab C fn aA ops todo Q a ⟨aF,rw⟩):ab C fn aA ops todo Q a ⟨ro,rw'⟩:=
 akQ hC fun hw=>by
  obtain⟨aF,h1,h2,h3⟩:=XL (s:=⟨ro,rw⟩) hp hw
  exact(h aF h1 h2).more hC h3
theorem eS.use{f:FuncId}{own fr:Cells}(hp:s.rw.Perm (own++fr))(hB:∀x∈B,x∈fr)(hf:∀aB,Sub s.ro aB→(∀x∈B,aB x.1=some x.2)→eS P f vs aB own Φ):
 Fn (CP P) P f ⟨vs⟩ s (fun en s'=>∃v X,en= .returned v∧Φ v X∧(⟨s.ro,X++fr⟩:St).le s'):=by
 refine ahp fg fun⟨w,hw⟩=>?_
 classical
 have Af:∀x,x∈B→x∈s.rw:=fun x hx=>hp.mem_iff.2 (List.mem_append_right _ (hB x hx))
 let aB:Nat→Option Obj:=fun b=>if hx:∃o,(b,o)∈B then some (Classical.choose hx) else s.ro b
 have h1:Sub s.ro aB:=fun b o hb=>by
  simp only[aB]
  rw[dif_neg]
  ·exact hb
  rintro⟨o2,Ij⟩
  rw[hw.apart b o2 (Af _ Ij)] at hb;cases hb
 have h2:∀x∈B,aB x.1=some x.2:=fun⟨b,o⟩ hx=>by
  have mA:∃o,(b,o)∈B:=⟨o,hx⟩
  simp only[aB]
  rw[dif_pos mA]
  have h3:=hw.rw b _ (Af _ (Classical.choose_spec mA))
  rw[hw.rw b o (Af _ hx)] at h3
  cases h3;rfl
 refine Fn.mono (Fn.frame (fr:=fr) (B:=B) (ro:=s.ro) (s:=s) (hf aB h1 h2) hB ⟨hp,fun b o hb=>?_,Sub.refl _⟩) fun en s' DI=>?_
 ·simp only[aB] at hb
  split at hb
  ·rename_i hx
   simp only[Option.some.injEq] at hb
   exact .inr (hb▸Classical.choose_spec hx)
  exact .inl hb
 obtain⟨yM,⟨v,X,rfl,rfl,qE⟩,hc⟩:=DI
 exact⟨v,X,rfl,qE,[],by simpa using hc.rw,fun b o hb=> .inl (hc.keep b o hb)⟩
theorem adu(hC:∀main T,C main T→Closed P main T){f:FuncId}{own fr:Cells}(ho:ops[i]?=some ⟨dst,.call ⟨.value x,xs,at_⟩,ty,pos,c8,g⟩) (hw:av ops n env g=true)
 (hv:bh n env x=some (.func (.func f) fi ca)) (ff:FF P f) (hx:vM n env xs=some vs) (sw:fi++⟨vs⟩++ca=⟨ws⟩) (hp:s.rw.Perm (own++fr)) (hB:∀x∈B,x∈fr) (hf:∀aB,Sub s.ro aB→(∀x∈B,aB x.1=some x.2)→eS P f ws aB own Φ)
 (h:∀v X,Φ v X→ab C fn aA ops rest Q (A n (upd dst v env) D) ⟨s.ro,X++fr⟩):ab C fn aA ops (i::rest) Q (A n env D) s:=
 uk hC ho hw hv ff hx sw ((eS.use hp hB hf).weaken hC) (fun v' s' hr=>by obtain⟨v,X,e,h1,h2⟩:=hr;cases e;exact(h _ X h1).more hC h2) (fun ch s' hr=>by obtain⟨_,_,e,_⟩:=hr;cases e) (fun s' hr=>by obtain⟨_,_,e,_⟩:=hr;cases e)
theorem dO.use{f:FuncId}{V:Value}{sz:St}(hez:Ext s sz)(hf:∀aB,(∀b o,s.has b o→aB b=some o)→dO P f vs aB V):Fn (CP P) P f ⟨vs⟩ sz (fun e s'=>e= .returned V∧sz.le s'):=by
 refine ahp fg fun⟨w,hw⟩=>?_
 refine Fn.mono (eS.use (s:=sz) (own:=[]) (fr:=sz.rw) (B:=sz.rw) (.refl _) (fun _ h=>h) (fun aB h1 h2=>hf aB fun b o hb=>?_)) fun en s' DI=>?_
 ·rcases hez b o hb with h3|h3
  ·exact h1 b o h3
  exact h2 _ h3
 obtain⟨v,X,e,⟨h1,h2⟩,h3⟩:=DI
 subst h1 h2
 exact⟨e,h3⟩
theorem PE(hC:∀main T,C main T→Closed P main T){f:FuncId}{V:Value}{s0:St}(ho:ops[i]?=some ⟨dst,.call ⟨.value x,xs,at_⟩,ty,pos,c8,g⟩) (hw:av ops n env g=true)
 (hv:bh n env x=some (.func (.func f) fi ca)) (ff:FF P f) (hx:vM n env xs=some vs) (sw:fi++⟨vs⟩++ca=⟨ws⟩) (hez:Ext s0 s) (hf:∀aB,(∀b o,s0.has b o→aB b=some o)→dO P f ws aB V) (h:ab C fn aA ops rest Q (A n (upd dst V env) D) s):ab C fn aA ops (i::rest) Q (A n env D) s:=
 uk hC ho hw hv ff hx sw ((dO.use hez hf).weaken hC) (fun v' s' hr=>by obtain⟨e,h1⟩:=hr;cases e;exact h.more hC h1) (fun ch s' hr=>by cases hr.1) (fun s' hr=>by cases hr.1)
theorem FV{ro aB:Nat→Option Obj}(h:∀b o,(⟨ro,rw⟩:St).has b o→aB b=some o):Sub ro aB:=fun b o hb=>h b o (.inl hb)
theorem ax.lR{v:Value}{T:TypeId}{enc:α→List Value}{ps:List α}{L:Cells}{aB:Nat→Option Obj}(h:ax v sz T enc ps L)(hL:∀x∈L,aB x.1=some x.2):bE aB v sz enc ps:=by
 obtain⟨a,b,o,cap,h1,h2,h3⟩:=h.sl (s:=⟨aB,[]⟩) fun x hx=> .inl (hL x hx)
 refine⟨a,b,o,cap,h1,?_,h2,h3⟩
 rcases h with ⟨_,g2,_⟩| ⟨b',l,aU3,g1,_,_,g4,_⟩
 ·subst g2;exact Nat.zero_le _
 rw[g1] at h1;cases h1;exact g4
end rules
section rules
variable {P:Program} {C:Class} {fn:FuncId} {aA:Option Nat} {Q:Post} {s:St} {n:Nat} {env:Env} {D:List Deferred}
variable {ops:Array Oper} {i:Nat} {rest:List Nat} {dst:Option Tmp} {ty:TypeId} {pos:String} {c8:Array Edge} {g:Option (Nat×Bool)}
variable {T:TypeId} {d:TypeDesc} {sz bx:Nat} {z:List Value} {ag:Bool}
theorem Ti(hC:∀main T,C main T→Closed P main T)(ho:ops[i]?=some ⟨dst,.range T x,ty,pos,c8,g⟩) (hw:av ops n env g=true) (tf:TF P T .string sz bx z ag) (hx:bh n env x=some (.string b))
 (h:∀r,¬s.knows r→ab C fn aA ops rest Q (A n (upd dst (.pointer (some ⟨r,0,none⟩)) env) D) ⟨s.ro,(r,.stringIter b 0)::s.rw⟩):ab C fn aA ops (i::rest) Q (A n env D) s:=by
 refine bN hC ho hw (by simp) ?_
 simp only[execOp,Instr.range,aa,aX tf,aE hx,ae,oI]
 intro r hr
 have:=h r hr
 rw[←aV] at this
 exact this
theorem Zs(hC:∀main T,C main T→Closed P main T){r:Nat}{L R:Cells}(ho:ops[i]?=some ⟨dst,.next x true,ty,pos,c8,g⟩) (hw:av ops n env g=true) (hx:bh n env x=some (.pointer (some ⟨r,0,none⟩))) (hs:s.rw=L++(r,.stringIter b p)::R) (hp:p <b.size)
 (h:ab C fn aA ops rest Q (A n (upd dst (.tuple ⟨[.bool true,.int .i64 p,.int .i32 (Utf8.decode b p).1]⟩) env) D) ⟨s.ro,L++(r,.stringIter b (p+(Utf8.decode b p).2))::R⟩):ab C fn aA ops (i::rest) Q (A n env D) s:=by
 refine bN hC ho hw (by simp) ?_
 simp only[execOp,Instr.next,aa,aE hx]
 refine cA (o:= .stringIter b p) (.inr (by rw[hs];simp)) rfl rfl ?_
 simp only[aa,hp,if_true]
 refine eJ (o:= .stringIter b (p+(Utf8.decode b p).2)) rfl hs rfl ?_
 rw[←aV] at h
 exact h
theorem Zt(hC:∀main T,C main T→Closed P main T){r:Nat}{L R:Cells}(ho:ops[i]?=some ⟨dst,.next x true,ty,pos,c8,g⟩) (hw:av ops n env g=true) (hx:bh n env x=some (.pointer (some ⟨r,0,none⟩))) (hs:s.rw=L++(r,.stringIter b p)::R) (hp:¬p <b.size)
 (h:ab C fn aA ops rest Q (A n (upd dst (.tuple ⟨[.bool false]⟩) env) D) s):ab C fn aA ops (i::rest) Q (A n env D) s:=by
 refine bN hC ho hw (by simp) ?_
 simp only[execOp,Instr.next,aa,aE hx]
 refine cA (o:= .stringIter b p) (.inr (by rw[hs];simp)) rfl rfl ?_
 simp only[aa,hp,if_false]
 rw[←aV] at h
 exact h
end rules
end Go.L
