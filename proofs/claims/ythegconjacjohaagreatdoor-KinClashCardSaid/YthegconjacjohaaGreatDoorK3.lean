/- Part 3 of the proof. -/
import Derived.Test.YthegconjacjohaaGreatDoorK2
import Derived.Conc.CrowdStepC
import Derived.Conc.Own2
import Derived.Conc.TokenWalk
set_option maxRecDepth 100000
set_option linter.all false
namespace Go.L
open Go Go.Conc
open Go.ConcR (KK wgBlock WgAt stA smA rd wr)
variable {P:Program} {s cs iu:List Frame} {f fr nO:Frame} {Q:Machine→Outcome→World→Trace→Prop} {ro:Nat→Option Obj} {ty:TypeId} {main:Bool} {α:Type} {rest l:List Code} {W lZ id i p n off pc sz:Nat} {T:Goroutine→St→Prop} {vs ws:List Value} {x:Operand} {xs:Array Operand} {g:Goroutine} {ca args fi:Array Value} {todo:List Nat} {b:ByteArray} {z:Value} {ats at_:Array TypeId} {s':St} {o:Obj} {st sm:Int}
section
variable {ι:Type} {E:dO ι} {L:Nat→Option Obj} {K:Nat→St} {gs:Array Goroutine} {w:World} {t:Trace} {D:List (au ι)} {d0:Nat} {main:Goroutine} {sl:Option (Nat×Nat)}
 {ic n:Nat} {g:Goroutine}
def IX(E:dO ι)(pc:Nat)(K:Nat→St)(w:World)(t:Trace):Prop:=
 (∃sn tm,w.heap[E.Ch]?=some (.chan 0 #[] true sn sn tm))∧¬(K 0).knows E.Ch∧t.act? pc=some (.close E.Ch)∧t.heard pc∧(∀a,NoRelease a t)∧w.os=E.os∧w.output=E.out
theorem H0(E:dO ι)(pc:Nat):aaj (IX E pc) where
 grow:=fun K w t u h hu=>⟨h.1,h.2.1,by rw[act?_old (lt_of_act? h.2.2.1)];exact h.2.2.1,(heard_old (lt_of_act? h.2.2.1)).2 h.2.2.2.1,fun a=>(h.2.2.2.2.1 a).app fun op az=>hu op az a,h.2.2.2.2.2⟩
 drawn:=fun K w t d h=>h
 le:=fun K w t s h hl=>⟨h.1,by rw[aE];exact fun hk=>h.2.1 (hl.knows hk),h.2.2⟩
 own:=fun K w t s' w' es u h ht hu=>by
  obtain⟨⟨sn,tm,hc⟩,hk,ha,hh,hn,RF⟩:=h
  have cJ:=lt_size hc
  refine⟨⟨sn,tm,by rw[ht.frame _ cJ fun ho=>hk (.inr ho)];exact hc⟩,?_,by rw[act?_old (lt_of_act? ha)];exact ha,(heard_old (lt_of_act? ha)).2 hh,fun a=>(hn a).app fun op az=>hu op az a,ht.os.trans RF.1,ht.output.trans RF.2⟩
  rw[aE]
  rintro(h'|h')
  ·rcases ht.MS _ h' with h1|h1|h1
   ·omega
   ·exact hk (.inl h1)
   exact hk (.inr h1)
  rcases ht.own _ h' with h1|h1
  ·omega
  exact hk (.inr h1)
theorem aaV{r:au ι}(h1:r.cnt=0)(h4:r.c4=0)(h3:r.c3=0)(h2:r.c2=0)(hc:r≠ .closer):∃q d c,r= .leave q d c:=by
 cases r with
 |leave q d c=>exact⟨q,d,c,rfl⟩
 |closer=>exact absurd rfl hc
 |st k n=>cases k<;>simp[au.cnt,au.c4,au.c3,au.c2] at h1 h4 h3 h2
 |_=>exact absurd h1 (by simp[au.cnt])
theorem AcqAll.known(hA:AcqAll E t D ic)(hn:NoRelease (stA E.Wg) t){u:Trace}(hpc:t.size≤pc){y:MemOp}(hy:(t++u)[pc]?=some y) (hyg:y.g=ic+1) {r:au ι} (hi:D[i]?=some r) (hc:r.cur=true)
 (hp:t.g? p=some (i+1)) (hct:t.counts p):HappensBefore (t++u) p pc:=by
 obtain⟨q,h1,h2,h3,h4⟩:=hA
 obtain⟨x,hx,hxq⟩:=h4 i r hi hc
 have hq:=lt_of_act? h1
 have hqg:=h2
 obtain⟨oq,hoq,hgq⟩:=Option.map_eq_some_iff.1 h2
 have acy:HappensBefore t x q:= .single (.inr ⟨.marked hxq (.inr hx.act) h1 (fun k _ _=>hn k),hx.heard,h3⟩)
 have last:HappensBefore (t++u) q pc:=hb_po (by omega) (by rw[getElem?_append_old hq];exact hoq) hy (hgq.trans hyg.symm)
 have hle:p≤x:=Nat.le_of_not_lt fun cJ=>hx.after p cJ hp hct
 rcases Nat.lt_or_ge p x with cJ|Sc
 ·exact((hb_app u (.trans (.single (.inl ⟨cJ,_,hp,hx.g⟩)) acy)).trans last)
 obtain rfl:p=x:=by omega
 exact(hb_app u acy).trans last
def agy(qc:Nat):au ι→Nat
 | .leave q _ _=>q
 |_=>qc
theorem Inv.close(h:Inv E L K gs w t D 0 (some (ic,.run .leaf,n)) main d0){main':Goroutine}(hm:∀(a a':Goroutine) (w':World),mayWake E.P a=true→(a'.status= .running∨a'.status= .finished)→(∃sn tm,w'.heap[E.Ch]?=some (.chan 0 #[] true sn sn tm))→woken E.P a a' w' main=main')
 (hg:gs[ic+1]?=some g):
 ∃lh w' u q,runT E.P (crowd gs w sl) (ic+1)=(.next (crowd lh w' sl),u)∧Lv E.P (jk (t.size+1)) L (fun j=>if j=0 then K 0 else ⟨fun _=>none,[]⟩) lh w' (t++u) q∧lh[0]?=some main'∧Deaf (t++u) 0=d0∧
  IX E (t.size+1) (fun j=>if j=0 then K 0 else ⟨fun _=>none,[]⟩) w' (t++u)∧kM D=[]:=by
 obtain⟨hic,Ho,zf,⟨gc,Fw,pX⟩,V1⟩:=h.sy.E1
 obtain rfl:gc=g:=by rw[hg] at Fw;exact(Option.some.inj Fw).symm
 obtain⟨st,sm,ha,mU⟩:=h.sy.cells
 obtain⟨e1,e4,e3,e2,rfl,rfl⟩:=mU.run rfl trivial
 obtain⟨_,hs,hmw,g',bW,q,hq⟩:=pX
 obtain⟨sn,rc,tm,hc⟩:=h.sy.chan
 have axX:=h.sy.bal _ _ _ hc
 subst axX
 have hA:=V1 ⟨_,rfl⟩
 have cJ:=(List.getElem?_eq_some_iff.1 hic).1
 have Vv:∀k r,D[k]?=some r→k≠ic→∃q d c,r= .leave q d c:=fun k r hk dI=>by
  refine aaV ?_ ?_ ?_ ?_ fun e=>dI (Ho k (e▸hk))
  ·have:=uh au.cnt hk;omega
  ·have:=uh au.c4 hk;omega
  ·have:=uh au.c3 hk;omega
  have:=uh au.c2 hk;omega
 have gA:=bW w sn sn tm hc
 have bX:=runT_crowd_go (P:=E.P) (sl:=sl) (i:=ic+1) hg (by simpa using gA)
 have q1:MemOp.ofEvents (ic+1) gc.frame.fn gc.frame.place #[⟨.obj E.Ch,false,true⟩,⟨.obj E.Ch,true,true⟩]= #[{g:=ic+1,fn:=gc.frame.fn,pos:=gc.frame.place,act:= .access ⟨.obj E.Ch,false,true⟩},{g:=ic+1,fn:=gc.frame.fn,pos:=gc.frame.place,act:= .close E.Ch}]:=by rw[ofEvents_eq];simp[MemAct.ofEvent]
 rw[q1] at bX
 generalize hu:(#[{g:=ic+1,fn:=gc.frame.fn,pos:=gc.frame.place,act:= .access ⟨.obj E.Ch,false,true⟩},{g:=ic+1,fn:=gc.frame.fn,pos:=gc.frame.place,act:= .close E.Ch}]:Trace)=u at bX
 have Lz:∀op∈u,op.g=ic+1∧(op.act= .access ⟨.obj E.Ch,false,true⟩∨op.act= .close E.Ch):=by rw[←hu];intro op az;simp at az;rcases az with rfl|rfl<;>simp
 have Za:∀op∈u,∀x,op.act.touch?=some x→x=⟨.obj E.Ch,false,.atomic⟩:=fun op az x hx=>by
  rcases(Lz op az).2 with e|e<;>rw[e] at hx
  ·simp only[MemAct.touch?,if_true,Option.some.injEq] at hx;exact hx.symm
  cases hx
 have JO:∀op∈u,∀m,op.act≠ .mark m:=fun op az m=>by rcases(Lz op az).2 with e|e<;>rw[e]<;>simp
 have aHL:E.Ch <w.heap.size:=lt_size hc
 have tv:(w.heap.setIfInBounds E.Ch (.chan 0 #[] true sn sn tm))[E.Ch]?=some (.chan 0 #[] true sn sn tm):=by simp[aHL]
 have hpc:(t++u)[t.size+1]?=some {g:=ic+1,fn:=gc.frame.fn,pos:=gc.frame.place,act:= .close E.Ch}:=by rw[←hu];simp
 have hle:∀j,((fun j=>if j=0 then K 0 else ⟨fun _=>none,[]⟩) j:St).le (K j):=fun j=>by
  by_cases e:j=0
  ·subst e;exact St.le_refl _
  simp only[if_neg e];exact⟨(K j).rw,by simp,fun b o hb=>(by cases hb)⟩
 have aR5:∀x:Goroutine,(x.status= .running∨x.status= .finished)→woken E.P gc g' {w with heap:=w.heap.setIfInBounds E.Ch (.chan 0 #[] true sn sn tm)} x=x:=fun x hx=>by
  unfold Go.Conc.woken
  split
  ·exact again_running _ hx
  rfl
 have kP:∀i r,D[i]?=some r→i≠ic→jk (t.size+1) (t++u) (i+1):=fun i r hi dI=>by
  obtain⟨x,hx,fe⟩:=h.base.ok i r hi
  obtain⟨qq,d,c,rfl⟩:=Vv i r hi dI
  refine⟨by rw[←hu];simp,?_⟩
  cases c with
  |false=>exact .inl ((fe.2.2.2.2 rfl).other fun op az=>by rw[(Lz op az).1];omega)
  |true=>
   refine .inr fun p hp hct=>?_
   obtain⟨op,ho,hgo⟩:=Option.map_eq_some_iff.1 hp
   rcases getElem?_append_cases ho with ⟨Vx,_⟩| ⟨_,iX⟩
   ·exact hA.known (h.sy.norel _) (Nat.le_succ _) hpc rfl hi rfl (by rw[←g?_old (u:=u) Vx];exact hp) ((counts_old Vx).1 hct)
   rw[(Lz op iX).1] at hgo;omega
 refine⟨_,_,u,D.map (agy q),bX,⟨?_,by simp[h.base.size],fun k x hk=>?_,fun i b hi hk=>?_,fun op az=>?_⟩,?_,?_,⟨⟨sn,tm,tv⟩,h.sy.kC 0,?_,?_,fun a=>(h.sy.norel a).app fun op az=>JO op az _,h.base.same.1,h.base.same.2⟩,?_⟩
 ·refine(h.base.fit.beside E.Ch (ic+1) h.sy.kC h.sy.lC aHL (by simp) (fun b hb _=>by simp[Ne.symm hb]) (fun op az=>(Lz op az).1) fun op az x hx=>?_).le hle
  obtain rfl:=Za op az x hx
  refine⟨rfl,fun sd p a uV hc=>h.sy.plain _ (.inr ⟨ic,_,rfl,hic,rfl⟩) p a uV (.inr (by rw[hc.1];rfl)) ?_⟩
  rcases hc.2.2.2 with h3|h3|h3
  ·exact h3
  ·cases h3
  cases h3.2.2
 ·rw[List.getElem?_map] at hk
  obtain⟨r,hr,rfl⟩:=Option.map_eq_some_iff.1 hk
  by_cases dI:k=ic
  ·subst dI
   rw[hic] at hr
   cases hr
   refine⟨g',0,by simp[h.base.size,cJ],hq,by rw[fU _ _ _ JO];exact zf,by rw[←hu];simp,.inr fun p hp hct=>?_⟩
   obtain⟨op,ho,hgo⟩:=Option.map_eq_some_iff.1 hp
   rcases Nat.lt_or_ge p (t.size+1) with Vx|Sc
   ·exact hb_po Vx ho hpc hgo
   have hpe:p=t.size+1:=by
    have:=lt_size ho
    rw[←hu] at this
    simp at this
    omega
   subst hpe
   obtain⟨y,hy,_⟩:=hct
   obtain⟨o',Ft,k7⟩:=touch_of hy
   rw[hpc] at Ft;cases Ft
   cases k7
  obtain⟨x,hx,fe⟩:=h.base.ok k r hr
  have bY:=kP k r hr dI
  obtain⟨qq,d,c,rfl⟩:=Vv k r hr dI
  exact⟨x,d,by rw[fY (by omega) hx,aR5 x fe.2.1.status],fe.2.1,by rw[fU _ _ _ JO];exact fe.2.2.1,bY⟩
 ·simp only[if_neg hi] at hk
  rcases hk with hk| ⟨o,ho⟩
  ·exact hk rfl
  cases ho
 ·rw[Array.size_setIfInBounds,Array.size_map]
  rcases Array.mem_append.1 az with h'|h'
  ·exact h.base.ops op h'
  rw[(Lz op h').1,h.base.size];omega
 ·rw[fY (by omega) h.main,hm _ _ _ hmw hq.status ⟨sn,tm,tv⟩]
 ·rw[fU _ _ _ JO];exact h.deaf
 ·rw[act?_of hpc]
 ·refine⟨ic+1,by simp[Trace.g?,hpc],?_⟩
  have e2:t++u=(t++ #[({g:=ic+1,fn:=gc.frame.fn,pos:=gc.frame.place,act:= .access ⟨.obj E.Ch,false,true⟩}:MemOp)])++ #[({g:=ic+1,fn:=gc.frame.fn,pos:=gc.frame.place,act:= .close E.Ch}:MemOp)]:=by rw[←hu,Array.append_assoc];rfl
  have e3:=fU t (ic+1) #[({g:=ic+1,fn:=gc.frame.fn,pos:=gc.frame.place,act:= .access ⟨.obj E.Ch,false,true⟩}:MemOp)] (by intro op az m;simp only[List.mem_toArray,List.mem_singleton] at az;subst az;simp)
  rw[e2,deaf_old (by simp)]
  unfold Deaf at e3 zf
  rw[Array.size_append] at e3
  exact e3.trans zf
 unfold kM
 rw[List.filterMap_eq_nil_iff]
 intro r hr
 obtain⟨k,hk⟩:=List.getElem?_of_mem hr
 by_cases dI:k=ic
 ·subst dI;rw[hic] at hk;cases hk;rfl
 obtain⟨qq,d,c,rfl⟩:=Vv k r hk dI;rfl
end
section
variable {ι:Type} {E:dO ι} {L:Nat→Option Obj} {K:Nat→St} {gs:Array Goroutine} {w w':World} {t u:Trace} {D:List (au ι)} {pend d0:Nat} {cl:Ar} {main:Goroutine} {sl:Option (Nat×Nat)}
 {i:Nat} {g g':Goroutine} {es:Array Event}
def PLt(mx:Nat):List (au ι)×Ar→List (au ι)×Ar→Prop:=Prod.Lex (One uF) (InvImage E7 (nv mx))
theorem PLt.wf(mx:Nat):WellFounded (PLt (ι:=ι) mx):=(Prod.lex ⟨_,One.wf uF.wf⟩ ⟨_,InvImage.wf (nv mx) E7.wf⟩).wf
theorem Inv.other(h:Inv E L K gs w t D pend cl main d0)(hm:gF E main)(hg:gs[i+1]?=some g) (hs:g.status= .running) (CX:D[i]?≠some (.back .leaf)) (DX:∀n,cl≠some (i,.run .leaf,n))
 (hw:(∃o,D[i]?=some (.work o .leaf))→main.status= .running):
 ∃K' lh w' u D' cl',runT E.P (crowd gs w sl) (i+1)=(.next (crowd lh w' sl),u)∧Inv E L K' lh w' (t++u) D' pend cl' main d0∧K' 0=K 0∧kM D'=kM D∧cl'.isSome=cl.isSome∧PLt E.max (D',cl') (D,cl)∧∀o,au.gz o∈D'→au.gz o∈D∨main.status= .running:=by
 have cJ:i <D.length:=by have:=lt_size hg;have:=h.base.size;omega
 have hD:D[i]?=some D[i]:=List.getElem?_eq_getElem cJ
 have fin:qN E L K D pend cl main d0 (crowd gs w sl) sl t (i+1)→
  ∃K' lh w' u D' cl',runT E.P (crowd gs w sl) (i+1)=(.next (crowd lh w' sl),u)∧Inv E L K' lh w' (t++u) D' pend cl' main d0∧K' 0=K 0∧kM D'=kM D∧cl'.isSome=cl.isSome∧PLt E.max (D',cl') (D,cl)∧∀o,au.gz o∈D'→au.gz o∈D∨main.status= .running:=by
  rintro⟨K',lh,w',u,D',cl',h1,h2,h3,h4,h5,h6,h7,h8⟩
  refine⟨K',lh,w',u,D',cl',h1,h2,h3,h4,?_,Prod.Lex.left _ _ h5,h8⟩
  cases hc:cl with
  |none=>rw[h6 hc]
  |some x=>have:=h7 (by rw[hc];simp);cases cl'<;>simp_all
 obtain⟨x,hx,fe⟩:=h.base.ok i _ hD
 obtain rfl:x=g:=by rw[hg] at hx;exact(Option.some.inj hx).symm
 generalize hr:D[i]=r at hD fe
 match r,hD,fe with
 | .leave q d c,hD,fe=>exact fin (h.leave hm hD hg hs)
 | .work o (.node f),hD,fe=>exact fin (h.work hm hD hg)
 | .work o .leaf,hD,fe=>exact fin (h.aaP (hw ⟨o,hD⟩) hD hg)
 | .gz o,hD,⟨_,vg,qy,v,zs,X,Y,e,_⟩=>rw[e] at hs;cases hs
 | .back (.node f),hD,fe=>exact fin (h.back hm hD hg)
 | .back .leaf,hD,fe=>exact absurd hD CX
 | .st k (n+1),hD,fe=>exact fin (h.atQ hm hD hg)
 | .st .r0 0,hD,fe=>exact fin (h.r0 hm hD hg)
 | .st .k1 0,hD,fe=>exact fin (h.k1 hm hD hg)
 | .st .d1 0,hD,fe=>exact fin (h.d1 hm hD hg)
 | .st .d2 0,hD,fe=>exact fin (h.d2 hm hD hg)
 | .st .d3 0,hD,fe=>exact fin (h.d3 hm hD hg)
 | .st .d4 0,hD,fe=>exact fin (h.d4 hm hD hg)
 | .closer,hD,fe=>
  have iY:=h.sy.E1
  match cl,h,iY,DX with
  |none,h,iY,_=>exact(iY _ (List.mem_of_getElem? hD)).elim
  |some (ic,c,n),h,⟨_,hu,_,_,_⟩,DX=>
   have e:=hu i hD
   subst e
   obtain⟨K',lh,w',u,c',n',h1,h2,h3,h4⟩:=h.closer (sl:=sl) hm hg hs fun e=>DX n (by rw[e])
   exact⟨K',lh,w',u,D,_,h1,h2,h3,rfl,rfl,Prod.Lex.right _ h4,fun _ h=> .inl h⟩
theorem Inv.awake(h:Inv E L K gs w t D pend cl main d0)(hm:gF E main):∀x∈gs,Go.Conc.awake x:=by
 intro x hx
 obtain⟨j,hj,rfl⟩:=Array.mem_iff_getElem.1 hx
 have hj':gs[j]?=some gs[j]:=Array.getElem?_eq_getElem hj
 intro k
 cases j with
 |zero=>
  rw[h.main] at hj'
  rw[←Option.some.inj hj']
  rcases hm with e| ⟨m,z,rfl⟩
  ·rw[e];simp
  simp[parked]
 |succ j=>
  have cJ:j <D.length:=by have:=h.base.size;omega
  have hD:D[j]?=some D[j]:=List.getElem?_eq_getElem cJ
  obtain⟨y,hy,fe⟩:=h.base.ok j _ hD
  rw[hj'] at hy
  rw[Option.some.inj hy]
  by_cases hb:∃o,D[j]= .gz o
  ·obtain⟨o,e⟩:=hb
   rw[e] at fe
   obtain⟨_,vg,qy,v,zs,X,Y,rfl,_⟩:=fe
   simp[parked]
  by_cases hc:D[j]= .closer
  ·have iY:=h.sy.E1
   match cl,iY with
   |none,iY=>
    have:=iY D[j] (List.mem_of_getElem? hD)
    rw[hc] at this
    exact this.elim
   |some (ic,c,n),⟨_,h2,_,⟨gc,Fw,pX⟩,_⟩=>
    have e:=h2 j (by rw[hD,hc])
    subst e
    rw[hj',hy] at Fw
    obtain rfl:=Option.some.inj Fw
    by_cases aiy:c= .blk
    ·subst aiy
     obtain⟨_,vg,arP,e⟩:=pX
     rw[e];simp
    rw[CK.uD pX aiy];simp
  rcases fe.running (fun o e=>hb ⟨o,e⟩) hc with e|e<;>rw[e]<;>simp
theorem Inv.le0(h:Inv E L K gs w t D pend cl main d0){s:St}(hl:s.le (K 0)):Inv E L (fJ K 0 s) gs w t D pend cl main d0:=by
 have hle:∀j,(fJ K 0 s j).le (K j):=fun j=>by
  by_cases e:j=0
  ·subst e;rw[aE];exact hl
  rw[aH _ _ e];exact St.le_refl _
 refine⟨⟨h.base.fit.le hle,h.base.size,fun k r hk=>?_,fun k hk b hb=>h.base.far k hk b ((hle k).knows hb),h.base.ops,h.base.same⟩,
  ⟨fun j hj=>h.sy.kW j ((hle j).knows hj),fun j hj=>h.sy.kC j ((hle j).knows hj),h.sy.lW,h.sy.lC,h.sy.ne,h.sy.norel,h.sy.plain,h.sy.said,h.sy.cells,h.sy.Ct,h.sy.chan,h.sy.bal,?_⟩,h.main,h.deaf⟩
 ·rw[aH _ _ (by omega)];exact h.base.ok k r hk
 have iY:=h.sy.E1
 match cl,iY with
 |none,iY=>exact iY
 |some (ic,c,n),⟨h1,h2,h3,⟨gc,Fw,pX⟩,h5⟩=>exact⟨h1,h2,h3,⟨gc,Fw,by rw[aH _ _ (by omega)];exact pX⟩,h5⟩
def TC(E:dO ι)(L:Nat→Option Obj)(Q:Machine→Outcome→World→Trace→Prop)(pend:Nat)(b:Bool)(os:List ι)(d0:Nat)(g:Goroutine)(s:St):Prop:=
 ∀K gs w t D cl sl,cl.isSome=b→Inv E L K gs w t D pend cl g d0→kM D=os→s.le (K 0)→Ends E.P Q (crowd gs w sl) t
theorem xg{b:Bool}{os:List ι}{s:St}(hs:g.status= .running)
 (h:∀K gs w t D cl sl m,cl.isSome=b→Inv E L K gs w t D pend cl g d0→kM D=os→K 0=s→stepT E.P m=runT E.P (crowd gs w sl) 0→Ends E.P Q m t)
 (iM:b=true→pend=0∧d0=0∧(os=[]→∀pc,TL E.P (jk pc) L (IX E pc) Q g s)):TC E L Q pend b os d0 g s:=by
 intro K gs w t D cl sl hb hI ho hle
 have key:∀μ:List (au ι)×Ar,∀K gs w t sl,μ.2.isSome=b→Inv E L K gs w t μ.1 pend μ.2 g d0→kM μ.1=os→K 0=s→Ends E.P Q (crowd gs w sl) t:=by
  intro μ
  induction μ using (PLt.wf E.max).induction with
  |_ μ ih=>
   obtain⟨D,cl⟩:=μ
   intro K gs w t sl hb hI ho hK
   simp only at hb hI ho
   obtain⟨i,eY,d,TA,dk,Hp,bW⟩:=crowd_pick (P:=E.P) (gs:=gs) (w:=w) (sl:=sl) (hI.awake (.inl hs)) ⟨0,g,hI.main,hs⟩
   have zl:=hI.at d
   cases i with
   |zero=>exact h K gs _ t D cl TA _ hb zl ho hK bW
   |succ i=>
    by_cases HO:D[i]?=some (.back .leaf)
    ·obtain⟨n,h1,h2,h3⟩:=hI.norm HO
     exact ih (_,cl) (Prod.Lex.left _ _ h3) _ gs w t sl hb h1 (h2.trans ho) (by rw[aH _ _ (by omega)];exact hK)
    by_cases hc:∃n,cl=some (i,.run .leaf,n)
    ·obtain⟨n,e⟩:=hc
     subst e
     obtain⟨hp,hd,hT⟩:=iM (by rw[←hb];rfl)
     subst hp
     obtain⟨lh,w',u,q,hr,hL,h0,hdd,hG,tJ⟩:=zl.close (sl:=TA) (main':=g) (fun a a' w' _ _ _=>by
      unfold Go.Conc.woken
      split
      ·exact again_running _ (.inl hs)
      rfl) dk
     exact Ends.next (bW.trans hr) (hT (ho.symm.trans tJ) (t.size+1) _ lh w' _ q TA hL h0 (by simp only[if_true];rw[hK];exact St.le_refl _) (by rw[hdd];exact hd) hG)
    obtain⟨K',lh,w',u,D',cl',hr,N6,jV,I7,fL,cJ,_⟩:=zl.other (sl:=TA) (.inl hs) dk Hp HO (fun n e=>hc ⟨n,e⟩) (fun _=>hs)
    exact Ends.next (bW.trans hr) (ih (D',cl') cJ K' lh w' _ TA (fL.trans hb) N6 (I7.trans ho) (jV.trans hK))
 exact key (D,cl) _ gs w t sl hb (hI.le0 hle) ho (aE _ _ _)
end
section
variable {ι:Type} {E:dO ι} {L:Nat→Option Obj} {Q:Machine→Outcome→World→Trace→Prop} {g:Goroutine} {s:St}
theorem Xv(V4:L E.Ch=none){x:Goroutine}(hx:x.status= .running)(bW:∀w,aR s w→stepG E.P true x w= .comm g #[rcase E.Ch z] true (.recv true) w #[])
 (mT:∀w,aR s w→(∀b o,L b=some o→w.heap[b]?=some o)→aR s' w) (Ak:∀b,s'.knows b→L b≠none∨s.knows b)
 (hT:TL E.P eB (fun _=>none) (Calm E.os E.out) Q (Conc.served g (.tuple #[z,.bool false])) s'):TL E.P (jk pc) L (IX E pc) Q x s:=by
 refine MG (Sv pc) (H0 E pc) hx fun K gs w t q sl m hL h0 hK hd hG hm _=>?_
 subst hK
 obtain⟨⟨sn,tm,hc⟩,hkC,aoV,axp,aFL,ahq⟩:=hG
 have CW:partners (gs.setIfInBounds 0 ph) E.Ch true=[]:=partners_nil fun j y hy=>by
  rcases getElem?_stand gs _ _ _ hy with ⟨_,rfl⟩| ⟨hj,Pb⟩
  ·exact offersAt_ph _ _
  cases j with
  |zero=>exact absurd rfl hj
  |succ j=>
   have cJ:j <q.length:=by have:=lt_size Pb;have:=hL.size;omega
   obtain⟨y',d,hy2,hq,_⟩:=hL.ok j _ (List.getElem?_eq_getElem cJ)
   rw[Pb] at hy2
   rw[Option.some.inj hy2]
   exact rk hq.status _ _
 have bX:=crowd_recv_closed (sl:=sl) h0 (by simpa using bW w (hL.fit.jL 0)) hc CW
 have e0:MemOp.ofEvents 0 x.frame.fn x.frame.place #[]= #[]:=rfl
 rw[e0,Array.empty_append] at bX
 generalize hu:(#[{g:=0,fn:=g.frame.fn,pos:=g.frame.place,act:= .recvClosed E.Ch}]:Trace)=u at bX
 have Lz:∀op∈u,op.g=0∧op.act= .recvClosed E.Ch:=by rw[←hu];intro op az;simp at az;subst az;exact⟨rfl,rfl⟩
 have Za:∀op∈u,op.act.touch?=none:=fun op az=>by rw[(Lz op az).2];rfl
 have JO:∀op∈u,∀m,op.act≠ .mark m:=fun op az m=>by rw[(Lz op az).2];simp
 have hr:(t++u)[t.size]?=some {g:=0,fn:=g.frame.fn,pos:=g.frame.place,act:= .recvClosed E.Ch}:=by rw[←hu];simp
 have arE:=lt_of_act? aoV
 have acy:HappensBefore (t++u) pc t.size:= .single (.inr ⟨.closed (c:=E.Ch) (by rw[act?_old arE];exact aoV) (by rw[act?_of hr]),(heard_old arE).2 axp,⟨0,by simp[Trace.g?,hr],by rw[deaf_old (Nat.le_refl _)];exact hd⟩⟩)
 have di:∀i n,q[i]?=some n→eB (t++u) (i+1):=fun i n hi=>by
  obtain⟨y,d,hy,hq,hdd,hk⟩:=hL.ok i n hi
  rcases hk.2 with hk|hk
  ·exact hk.quiet Za
  intro p hp hct
  obtain⟨op,ho,hgo⟩:=Option.map_eq_some_iff.1 hp
  rcases getElem?_append_cases ho with ⟨Vx,_⟩| ⟨_,iX⟩
  ·exact⟨t.size,by simp[Trace.g?,hr],(hb_app u (hk p (by rw[←g?_old (u:=u) Vx];exact hp) ((counts_old Vx).1 hct))).trans acy⟩
  rw[(Lz op iX).1] at hgo;omega
 have mX:=hL.fit.quiet (u:=u) (w':=w) E.Ch (fun j=>by
  by_cases e:j=0
  ·subst e;exact hkC
  exact hL.none j _ e) V4 (Nat.le_refl _) (fun _ _ _=>rfl) Za
 refine Ends.next (hm.trans bX) (hT (fJ K 0 s') _ w _ q sl ⟨?_,by simp[hL.size],fun i n hi=>?_,fun i b hi hk=>?_,fun op az=>?_⟩ ?_ (by rw[aE];exact St.le_refl _) (by rw[fU _ _ _ JO];exact hd) ⟨fun a=>(aFL a).app fun op az=>JO op az _,ahq⟩)
 ·refine mX.alone (i:=0) (fun j hj b=>hL.none j b hj) s' (mT w (hL.fit.jL 0) hL.fit.EE) Ak fun b hb p y hy TG hyb=>?_
  obtain⟨op,ho,hyo⟩:=touch_of hy
  have cJ:op.g <gs.size:=by
   rcases Array.mem_append.1 (mem_of_getElem? ho) with h'|h'
   ·exact hL.ops op h'
   rw[(Lz op h').1,hL.size];omega
  cases hgo:op.g with
  |zero=>have:=knows_own ho;rwa[hgo] at this
  |succ k=>
   have hk:k <q.length:=by have:=hL.size;omega
   obtain⟨j,hj,mv⟩:=di k _ (List.getElem?_eq_getElem hk) p (by simp[Trace.g?,ho,hgo]) ⟨y,by simpa [touchAt] using hy,by cases hl:y.loc<;>simp_all[blk,Loc.isMemory],.inl (by rw[TG];simp)⟩
   obtain⟨z',EI,hzg⟩:=Option.map_eq_some_iff.1 hj
   exact⟨j,z',EI,hzg,.inr mv⟩
 ·obtain⟨y,d,hy,hq,hdd,hk⟩:=hL.ok i n hi
  exact⟨y,d,by rw[Array.getElem?_setIfInBounds_ne (by omega)];exact hy,hq,by rw[fU _ _ _ JO];exact hdd,di i n hi⟩
 ·rw[aH _ _ hi] at hk;exact hL.none i b hi hk
 ·rw[Array.size_setIfInBounds]
  rcases Array.mem_append.1 az with h'|h'
  ·exact hL.ops op h'
  rw[(Lz op h').1,hL.size];omega
 have:0 <gs.size:=by rw[hL.size];omega
 simp[this,finishComm_recv,recvd]
end
section
variable {ι:Type} {E:dO ι} {L:Nat→Option Obj} {K:Nat→St} {gs:Array Goroutine} {w w':World} {t:Trace} {D:List (au ι)} {pend d0:Nat} {cl:Ar} {main:Goroutine} {sl:Option (Nat×Nat)}
 {i:Nat} {Q:Machine→Outcome→World→Trace→Prop} {g:Goroutine} {s:St}
theorem setChan_at(w:World)(d c:Nat)(h:c <w.heap.size)(sn rc:Nat)(tm:Bool):
 ((w.at d).setChan c 0 #[] false sn rc tm).heap[c]?=some (.chan 0 #[] false sn rc tm)∧((w.at d).setChan c 0 #[] false sn rc tm).heap.size=w.heap.size∧
 ∀b,b≠c→((w.at d).setChan c 0 #[] false sn rc tm).heap[b]?=w.heap[b]?:=by
 refine⟨by simp[World.setChan,World.at,h],by simp[World.setChan,World.at],fun b hb=>by simp[World.setChan,World.at,Ne.symm hb]⟩
theorem Inv.alive(h:Inv E L K gs w t D 0 cl main d0)(iM:cl≠none)(hn:∀o,au.gz o∉D):∃(i:Nat) (x:Goroutine),gs[i]?=some x∧x.status= .running:=by
 by_cases di:∀r∈D,r.left=true∨r= .closer
 ·have iY:=h.sy.E1
  obtain⟨st,sm,_,mU⟩:=h.sy.cells
  match cl,iY,mU,iM with
  |some (ic,c,n),⟨_,_,_,⟨gc,Fw,pX⟩,_⟩,mU,_=>
   refine⟨_,gc,Fw,CK.uD pX fun e=>?_⟩
   subst e
   have z:∀(f:au ι→Nat),(∀q d c,f (.leave q d c)=0)→f .closer=0→fo f D=0:=fun f h1 h2=>by
    unfold fo
    rw[List.sum_eq_zero_iff_forall_eq_nat]
    intro x hx
    obtain⟨r,hr,rfl⟩:=List.mem_map.1 hx
    rcases di r hr with e|rfl
    ·cases r<;>first|exact h1 _ _ _|cases e
    exact h2
   have z1:=z au.cnt (fun _ _ _=>rfl) rfl
   have z4:=z au.c4 (fun _ _ _=>rfl) rfl
   have z3:=z au.c3 (fun _ _ _=>rfl) rfl
   have z2:=z au.c2 (fun _ _ _=>rfl) rfl
   rw[z1,z4,z3,z2] at mU
   simp only[Option.map_some] at mU
   generalize ho:some CK.blk=o at mU
   generalize h0:0+0=k at mU
   cases mU with
   |reg _ h2=>omega
   |sema _ h2=>cases ho;exact h2 rfl
   |over h1=>cases ho;exact h1.elim
   |_=>cases ho
 obtain⟨r,lE⟩:=Classical.not_forall.1 di
 obtain⟨hr,C8⟩:=Classical.not_imp.1 lE
 have h1:¬r.left=true:=fun e=>C8 (.inl e)
 have h2:r≠ .closer:=fun e=>C8 (.inr e)
 obtain⟨k,hk⟩:=List.getElem?_of_mem hr
 obtain⟨x,hx,fe⟩:=h.base.ok k r hk
 refine⟨_,x,hx,?_⟩
 cases r with
 |leave q d c=>exact absurd rfl h1
 |work o tr=>exact oN.running (fun _ _ y=>y.1) fe.2
 |gz o=>exact absurd hr (hn o)
 |back tr=>exact oN.running (fun _ _ y=>dO.pure.running (fun _ z=>z.1) y) fe.2
 |st k n=>exact Pure.running (WK.running k) fe.2.2.1
 |closer=>exact absurd rfl h2
theorem Inv.aaQ(h:Inv E L K gs w t D pend cl (parked g #[rcase E.Ch z] (.recv true)) 0)(iM:cl≠none){o:ι}{gw:Goroutine}(hi:D[i]?=some (.work o .leaf)) (hg:gs[i+1]?=some gw):
 ∃K' lh w' u D' v X a b,runT E.P (crowd gs w sl) (i+1)=(.next (crowd lh w' sl),u)∧Inv E L K' lh w' (t++u) D' pend cl (Conc.served g (.tuple #[v,.bool true])) 0∧K' 0=⟨(K 0).ro,X++(K 0).rw⟩∧
  E.Xg o v X∧kM D=a++o::b∧kM D'=a++b:=by
 obtain⟨eY,dk,fe⟩:=h.base.ok i _ hi
 obtain rfl:eY=gw:=by rw[hg] at dk;exact(Option.some.inj dk).symm
 obtain⟨hd,hs,qy,v,zs,X,Y,hXY,oD,bW,tr,iq,hle,yj⟩:=fe
 obtain⟨sn,rc,tm,hc⟩:=h.sy.chan
 have u9:=h.base.size
 have aQ8:partners (gs.setIfInBounds (i+1) ph) E.Ch false=[(0,0)]:=by
  have h0:(gs.setIfInBounds (i+1) ph)[0]?=some (parked g #[rcase E.Ch z] (.recv true)):=stand_get (by omega) h.main
  rw[partners_one h0 fun k x hk hx=>?_]
  ·rw[offersAt_parked_recv];simp
  rcases getElem?_stand gs _ _ _ hx with ⟨_,rfl⟩| ⟨_,k7⟩
  ·exact offersAt_ph _ _
  cases k with
  |zero=>exact absurd rfl hk
  |succ k=>
   rcases h.offers k7 with ⟨o',g',v',zs',_,rfl⟩|hn
   ·exact offersAt_parked_send' _ _ _ _ _ _
   exact hn _ _
 have bX:=crowd_send_meets (sl:=sl) hg (by simpa using bW w (h.base.fit.jL _)) hc (by omega) h.main aQ8
 have e0:MemOp.ofEvents (i+1) eY.frame.fn eY.frame.place #[]= #[]:=rfl
 rw[e0,Array.empty_append] at bX
 obtain⟨a,b,ha,hb⟩:=Cn (r':=au.back tr) rfl hi (o:=o) rfl
 have hwc:=setChan_at w w.drawn E.Ch (lt_size hc) (sn+1) (rc+1) tm
 refine⟨_,_,_,_,_,v,X,a,b,bX,h.meet iM hi (.inl rfl) hd hXY hle yj (by simp) ?_ ?_ (fun k h1 h2=>?_) hc hwc.1 hwc.2.1 hwc.2.2 ⟨rfl,rfl⟩ ⟨rfl,rfl⟩ ⟨rfl,rfl⟩ ⟨rfl,rfl⟩ ⟨rfl,rfl⟩,aE _ _ _,oD,ha,hb⟩
 ·rw[Array.getElem?_setIfInBounds_ne (by omega),Array.getElem?_setIfInBounds_self_of_lt (by omega)]
  rw[finishComm_recv];rfl
 ·rw[Array.getElem?_setIfInBounds_self_of_lt (by have:=lt_size hg;simpa using this)]
  rw[finishComm_send]
 rw[Array.getElem?_setIfInBounds_ne (Ne.symm h2),Array.getElem?_setIfInBounds_ne (Ne.symm h1)]
theorem QG{os:List ι}
 (LD:∀a o b v X,os=a++o::b→E.Xg o v X→TC E L Q 0 true (a++b) 0 (Conc.served g (.tuple #[v,.bool true])) ⟨s.ro,X++s.rw⟩)
 (qu:os=[]→∀pc,TL E.P (jk pc) L (IX E pc) Q {parked g #[rcase E.Ch z] (.recv true) with status:= .running} s):
 ∀(μ:List (au ι)×Ar) K gs w t sl,μ.2.isSome=true→Inv E L K gs w t μ.1 0 μ.2 (parked g #[rcase E.Ch z] (.recv true)) 0→kM μ.1=os→K 0=s→(∀o,au.gz o∉μ.1)→Ends E.P Q (crowd gs w sl) t:=by
 intro μ
 induction μ using (PLt.wf E.max).induction with
 |_ μ ih=>
  obtain⟨D,cl⟩:=μ
  intro K gs w t sl hb hI ho hK hn
  simp only at hb hI ho hn
  have iM:cl≠none:=fun e=>by rw[e] at hb;cases hb
  have R3:gF E (parked g #[rcase E.Ch z] (.recv true)):= .inr ⟨g,z,rfl⟩
  obtain⟨i,eY,d,TA,dk,Hp,bW⟩:=crowd_pick (P:=E.P) (gs:=gs) (w:=w) (sl:=sl) (hI.awake R3) (hI.alive iM hn)
  have zl:=hI.at d
  cases i with
  |zero=>rw[hI.main] at dk;rw[←Option.some.inj dk] at Hp;cases Hp
  |succ i=>
   by_cases HO:D[i]?=some (.back .leaf)
   ·obtain⟨n,h1,h2,h3⟩:=hI.norm HO
    refine ih (_,cl) (Prod.Lex.left _ _ h3) _ gs w t sl hb h1 (h2.trans ho) (by rw[aH _ _ (by omega)];exact hK) fun o hm=>?_
    rcases List.mem_or_eq_of_mem_set hm with h'|h'
    ·exact hn o h'
    cases h'
   by_cases hc:∃n,cl=some (i,.run .leaf,n)
   ·obtain⟨n,e⟩:=hc
    subst e
    obtain⟨lh,w',u,q,hr,hL,h0,hdd,hG,tJ⟩:=zl.close (sl:=TA) (main':={parked g #[rcase E.Ch z] (.recv true) with status:= .running}) (fun a a' w' hmw mT ⟨sn,tm,tv⟩=>by
     have:(mayWake E.P a&&a'.status != .blocked&&a'.status != .waiting)=true:=by rcases mT with e|e<;>simp[hmw,e]
     unfold Go.Conc.woken
     rw[if_pos this]
     exact again_recv_closed tv) dk
    exact Ends.next (bW.trans hr) (qu (ho.symm.trans tJ) (t.size+1) _ lh w' _ q TA hL h0 (by simp only[if_true];rw[hK];exact St.le_refl _) (by rw[hdd]) hG)
   by_cases EL:∃o,D[i]?=some (.work o .leaf)
   ·obtain⟨o,hi⟩:=EL
    obtain⟨K',lh,w',u,D',v,X,a,b,hr,N6,jV,oD,ha,mv⟩:=zl.aaQ (sl:=TA) iM hi dk
    refine Ends.next (bW.trans hr) (LD a o b v X (ho.symm.trans ha) oD K' lh w' _ D' cl TA hb N6 mv ?_)
    rw[jV,hK];exact St.le_refl _
   obtain⟨K',lh,w',u,D',cl',hr,N6,jV,I7,fL,cJ,hsb⟩:=zl.other (sl:=TA) R3 dk Hp HO (fun n e=>hc ⟨n,e⟩) (fun hx=>absurd hx EL)
   refine Ends.next (bW.trans hr) (ih (D',cl') cJ K' lh w' _ TA (fL.trans hb) N6 (I7.trans ho) (jV.trans hK) fun o hm=>?_)
   rcases hsb o hm with h'|h'
   ·exact hn o h'
   cases h'
theorem Xx{os:List ι}(hs:g.status= .running)(bW:∀w,aR s w→stepG E.P true g w= .comm g #[rcase E.Ch z] true (.recv true) w #[])
 (LD:∀a o b v X,os=a++o::b→E.Xg o v X→TC E L Q 0 true (a++b) 0 (Conc.served g (.tuple #[v,.bool true])) ⟨s.ro,X++s.rw⟩)
 (qu:os=[]→∀pc,TL E.P (jk pc) L (IX E pc) Q g s∧TL E.P (jk pc) L (IX E pc) Q {parked g #[rcase E.Ch z] (.recv true) with status:= .running} s):TC E L Q 0 true os 0 g s:=by
 refine xg hs (fun K gs w t D cl sl m hb hI ho hK hm=>?_) fun _=>⟨rfl,rfl,fun h pc=>(qu h pc).1⟩
 have iM:cl≠none:=fun e=>by rw[e] at hb;cases hb
 obtain⟨sn,rc,tm,hc⟩:=hI.sy.chan
 have hgo:=bW w (hK▸hI.base.fit.jL 0)
 have e0:MemOp.ofEvents 0 g.frame.fn g.frame.place #[]= #[]:=rfl
 by_cases dI:partners (gs.setIfInBounds 0 ph) E.Ch true=[]
 ·have bX:=crowd_waits (sl:=sl) hI.main (by simpa using hgo) (fun cc uU=>by
   simp only[List.mem_toArray,List.mem_singleton] at uU
   subst uU
   exact ways_recv_none hc dI)
  rw[e0] at bX
  have u9:=hI.base.size
  refine Ends.next (hm.trans bX) (QG LD (fun h pc=>(qu h pc).2) (D,cl) K _ w _ sl hb ⟨⟨?_,by simp[u9],fun k r hk=>?_,fun k hk=>hI.base.far k (by simpa using hk),fun op az=>?_,hI.base.same⟩,?_,?_,?_⟩ ho hK fun o hm=>?_)
  ·rw[Array.append_empty];exact hI.base.fit
  ·obtain⟨x,hx,fe⟩:=hI.base.ok k r hk
   exact⟨x,by rw[Array.getElem?_setIfInBounds_ne (by omega)];exact hx,by rw[Array.append_empty];exact fe⟩
  ·rw[Array.append_empty] at az;rw[Array.size_setIfInBounds];exact hI.base.ops op az
  ·rw[Array.append_empty]
   refine⟨hI.sy.kW,hI.sy.kC,hI.sy.lW,hI.sy.lC,hI.sy.ne,hI.sy.norel,hI.sy.plain,hI.sy.said,hI.sy.cells,hI.sy.Ct,hI.sy.chan,hI.sy.bal,?_⟩
   have iY:=hI.sy.E1
   match cl,iY with
   |none,iY=>exact iY
   |some (ic,c,n),⟨h1,h2,h3,⟨gc,Fw,pX⟩,h5⟩=>exact⟨h1,h2,h3,⟨gc,by rw[Array.getElem?_setIfInBounds_ne (by omega)];exact Fw,pX⟩,h5⟩
  ·rw[Array.getElem?_setIfInBounds_self_of_lt (by omega)]
  ·rw[Array.append_empty];exact hI.deaf
  obtain⟨k,hk⟩:=List.getElem?_of_mem hm
  obtain⟨x,hx,_,vg,qy,v,zs,X,Y,rfl,_⟩:=hI.base.ok k _ hk
  have:((k+1,0):Nat×Nat)∈partners (gs.setIfInBounds 0 ph) E.Ch true:=mem_partners.2 ⟨_,stand_get (by omega) hx,by rw[offersAt_parked_send];simp⟩
  rw[dI] at this;cases this
 obtain⟨j,gj,vj,zj,shj,d,hj0,hj,bX⟩:=crowd_recv_meets_some (sl:=sl) hI.main (by simpa using hgo) hc dI fun j k Pj=>by
  obtain⟨x,hx,hk⟩:=mem_partners.1 Pj
  rcases getElem?_stand gs _ _ _ hx with ⟨_,rfl⟩| ⟨hj0,k7⟩
  ·rw[offersAt_ph] at hk;cases hk
  cases j with
  |zero=>exact absurd rfl hj0
  |succ j=>
   rcases hI.offers k7 with ⟨o',g',v',zs',_,rfl⟩|hn
   ·rw[offersAt_parked_send] at hk
    simp at hk
    exact⟨hk,by omega,_,_,_,_,k7⟩
   rw[hn] at hk;cases hk
 rw[e0,Array.empty_append] at bX
 cases j with
 |zero=>exact absurd rfl hj0
 |succ i=>
  rcases hI.offers hj with ⟨o,qy,v,zs,hi,e⟩|hn
  ·obtain⟨x,hx,zf,vg,aHT,v',zs',X,Y,e',hXY,oD,_,tr,iq,hle,yj⟩:=hI.base.ok i _ hi
   obtain rfl:x=parked gj #[scase E.Ch vj zj] shj:=by rw[hj] at hx;exact(Option.some.inj hx).symm
   have hv:vj=v':=by
    have:=congrArg Goroutine.offers e'
    simp only[parked,scase,Option.some.injEq,Prod.mk.injEq,Array.mk.injEq,List.cons.injEq,CommCase.mk.injEq] at this
    exact this.1.1.2.1
   have hsv:gj.finishComm E.P #[scase E.Ch vj zj] shj 0 undef false=Conc.served aHT undef:=by
    have h1:shj= .send:=by
     have:=congrArg Goroutine.offers e'
     simp only[parked,Option.some.injEq,Prod.mk.injEq] at this
     exact this.2
    subst h1
    rw[finishComm_send]
    have h2:=congrArg (fun x:Goroutine=>Conc.served x undef) e'
    exact h2
   subst hv
   obtain⟨a,b,ha,mv⟩:=Cn (r':=au.back tr) rfl hi (o:=o) rfl
   have hwc:=setChan_at w d E.Ch (lt_size hc) (sn+1) (rc+1) tm
   have u9:=hI.base.size
   refine Ends.next (hm.trans bX) (LD a o b vj X (ho.symm.trans ha) oD _ _ _ _ (D.set i (.back tr)) cl sl hb
    (hI.meet iM hi (.inr rfl) zf hXY hle yj (by simp) ?_ ?_ (fun k h1 h2=>?_) hc hwc.1 hwc.2.1 hwc.2.2 ⟨rfl,rfl⟩ ⟨rfl,rfl⟩ ⟨rfl,rfl⟩ ⟨rfl,rfl⟩ ⟨rfl,rfl⟩) mv ?_)
   ·rw[Array.getElem?_setIfInBounds_self_of_lt (by simp;omega),finishComm_recv];rfl
   ·rw[Array.getElem?_setIfInBounds_ne (by omega),Array.getElem?_setIfInBounds_self_of_lt (lt_size hj),hsv]
   ·rw[Array.getElem?_setIfInBounds_ne (Ne.symm h1),Array.getElem?_setIfInBounds_ne (Ne.symm h2)]
   rw[aE,hK];exact St.le_refl _
  have:(0:Nat)∈offersAt (parked gj #[scase E.Ch vj zj] shj) E.Ch true:=by rw[offersAt_parked_send];simp
  rw[hn] at this;cases this
end
section
variable {ι:Type} {E:dO ι} {L:Nat→Option Obj} {K:Nat→St} {gs:Array Goroutine} {w w':World} {t:Trace} {D:List (au ι)} {pend d0:Nat} {cl:Ar} {sl:Option (Nat×Nat)}
 {Q:Machine→Outcome→World→Trace→Prop} {g g':Goroutine} {s:St} {es:Array Event}
theorem Inv.go0(h:Inv E L K gs w t D pend cl g d0)(hgo:stepG E.P true g w= .go g' w' es)(RF:Xh w w')(bZ:¬s'.knows E.Wg)(oO:¬s'.knows E.Ch)(vw:w'.heap[E.Ch]?=w.heap[E.Ch]?)
 (mX:Fit L (fJ K 0 s') w' (t++MemOp.ofEvents 0 g.frame.fn g.frame.place es))
 (k8:∀op∈MemOp.ofEvents 0 g.frame.fn g.frame.place es,∀x,op.act.touch?=some x→E.At x→x.kind≠ .plain∧(x.kind= .said→cl=none))
 (iy:∀op∈MemOp.ofEvents 0 g.frame.fn g.frame.place es,∀a,op.act≠ .mark (.release a)) 
 (nJ:∀cl',Ab cl cl'→∃st sm,WgAt E.ty E.Wg w' st sm∧Md E.max (fo au.cnt D+lZ) (fo au.c4 D) (fo au.c3 D) (fo au.c2 D) (cl'.map (·.2.1)) st sm) (R2:fo au.cnt D+lZ≤E.max):
 ∃lh u cl',runT E.P (crowd gs w sl) 0=(.next (crowd lh w' sl),u)∧Inv E L (fJ K 0 s') lh w' (t++u) D lZ cl' g' (deafBehind d0 es)∧cl'.isSome=cl.isSome:=by
 have Lz:∀op∈MemOp.ofEvents 0 g.frame.fn g.frame.place es,op.g=0:=fun op az=>Go.ConcR.g_of_ofEvents op az
 have bX:=runT_crowd_go (P:=E.P) (sl:=sl) (i:=0) h.main (by simpa using hgo)
 have hdo:Deaf (t++MemOp.ofEvents 0 g.frame.fn g.frame.place es) 0=deafBehind d0 es:=by rw[Deaf_own,h.deaf]
 generalize MemOp.ofEvents 0 g.frame.fn g.frame.place es=u at*
 obtain⟨sn,rc,tm,hc⟩:=h.sy.chan
 have tv:w'.heap[E.Ch]?=some (.chan 0 #[] false sn rc tm):=by rw[vw];exact hc
 have dI:∀k,∀op∈u,op.g≠k+1:=fun k op az=>by rw[Lz op az];omega
 have Jc:∀b,¬s'.knows b→(∀j,¬(K j).knows b)→∀j,¬(fJ K 0 s' j).knows b:=fun b h1 h2 j=>by
  by_cases e:j=0
  ·subst e;rw[aE];exact h1
  rw[aH _ _ e];exact h2 j
 obtain⟨cl',EL,iY⟩:∃cl',Ab cl cl'∧alf E (fJ K 0 s') ((gs.map (woken E.P g g' w')).setIfInBounds 0 g') (t++u) D cl':=by
  have iY:=h.sy.E1
  match cl,iY with
  |none,iY=>exact⟨none,.same _,iY⟩
  |some (ic,c,n),⟨h1,h2,h3,⟨gc,Fw,pX⟩,h5⟩=>
   obtain⟨c',n',hw,ax6,_,hdc⟩:=CK.tries (ic:=ic) pX g g' w'
   refine⟨some (ic,c',n'),hw,h1,h2,by rw[gM _ _ (dI ic),hdc];exact h3,⟨_,fY (by omega) Fw,by rw[aH _ _ (by omega)];exact ax6⟩,fun⟨tr,e⟩=>?_⟩
   subst e
   cases hw with
   |same=>
    obtain⟨q,a1,a2,a3,a4⟩:=h5 ⟨tr,rfl⟩
    have hq:=lt_of_act? a1
    exact⟨q,by rw[act?_old hq];exact a1,by rw[g?_old hq];exact a2,(heard_old hq).2 a3,fun i r hi hcu=>let ⟨p,hp,Zb⟩:=a4 i r hi hcu;⟨p,RelBy.other hp (dI i),Zb⟩⟩
 refine⟨_,u,cl',bX,⟨⟨mX,by simp[h.base.size],fun k r hk=>?_,fun k hk b hb=>?_,fun op az=>?_,⟨RF.1.trans h.base.same.1,RF.2.trans h.base.same.2⟩⟩,
  ⟨Jc _ bZ h.sy.kW,Jc _ oO h.sy.kC,h.sy.lW,h.sy.lC,h.sy.ne,fun a=>(h.sy.norel a).app fun op az=>iy op az a,fun j hj p x hx hb hk=>?_,?_,nJ cl' EL,R2,⟨sn,rc,tm,tv⟩,fun a b c hx=>h.sy.bal a b c (by rw[←vw];exact hx),iY⟩,?_,hdo⟩,by cases EL<;>rfl⟩
 ·obtain⟨x,hx,fe⟩:=h.base.ok k r hk
  rw[aH _ _ (by omega)]
  have abV:=fe.other (dI k)
  by_cases TR:r= .closer
  ·subst TR;exact⟨_,fY (by omega) hx,trivial⟩
  exact⟨x,by rw[fY (by omega) hx,fe.woken TR fun _=>⟨sn,rc,tm,tv⟩],abV⟩
 ·rw[Array.size_setIfInBounds,Array.size_map] at hk
  have:=h.base.size
  rw[aH _ _ (by omega)] at hb
  exact h.base.far k hk b hb
 ·rw[Array.size_setIfInBounds,Array.size_map]
  rcases Array.mem_append.1 az with h'|h'
  ·exact h.base.ops op h'
  rw[Lz op h',h.base.size];omega
 ·rcases bH hx with ⟨_,k7⟩| ⟨_,op,TO,_,yg⟩
  ·exact(h.sy.plain j hj p x k7 hb hk).app u
  exact absurd hk (k8 op TO x yg hb).1
 ·have Pd:=h.sy.said
  match cl,cl',EL,Pd,k8 with
  |none,_,.same _,Pd,_=>
   intro p x hx hb hk
   rcases bH hx with ⟨_,k7⟩| ⟨hp,op,TO,az,yg⟩
   ·exact(Pd p x k7 hb hk).app u
   exact CH Lz hp az
  |some (ic,c,n),_,.same _,Pd,k8=>
   intro he p x hx hb hk
   rcases bH hx with ⟨_,k7⟩| ⟨_,op,TO,_,yg⟩
   ·exact(Pd he p x k7 hb hk).app u
   exact absurd ((k8 op TO x yg (.inl hb)).2 hk) (by simp)
  |_,_,.up ic,_,_=>exact fun he=>he.elim
 have:=h.base.size
 rw[Array.getElem?_setIfInBounds_self_of_lt (by simp;omega)]
theorem Inv.Ix(h:Inv E L K gs w t D pend cl g d0)(hw:w'.heap[E.Wg]?=w.heap[E.Wg]?):∀cl',Ab cl cl'→∃st sm,WgAt E.ty E.Wg w' st sm∧Md E.max (fo au.cnt D+pend) (fo au.c4 D) (fo au.c3 D) (fo au.c2 D) (cl'.map (·.2.1)) st sm:=by
 intro cl' EL
 obtain⟨st,sm,ha,hm⟩:=h.sy.cells
 exact⟨st,sm,by unfold WgAt;rw[hw];exact ha,hm.as5 EL⟩
def TM(E:dO ι)(L:Nat→Option Obj)(Q:Machine→Outcome→World→Trace→Prop)(pend:Nat)(b:Bool)(os:List ι)(d0:Nat)(g:Goroutine)(s:St):Prop:=
 TC E L Q pend b os d0 g s∧(b=true→os=[]→∀pc,TL E.P (jk pc) L (IX E pc) Q g s)
theorem TC.mono{b:Bool}{os:List ι}(hl:s.le s')(h:TC E L Q pend b os d0 g s):TC E L Q pend b os d0 g s':=
 fun K gs w t D cl sl hb hI ho hle=>h K gs w t D cl sl hb hI ho (hl.trans hle)
theorem e8(b:Bool)(os:List ι)(hb:b=true→pend=0):Closed E.P true (TM E L Q pend b os 0) where
 step:=fun g s hs h=>by
  have hL:b=true→os=[]→∀pc,TL E.P (jk pc) L (IX E pc) Q g s:=fun e ho pc=>
   (Ka (Sv pc) (H0 E pc) Q).step g s hs fun w ha=>let ⟨g',w',es,s',h1,h2,h3,h4⟩:=h w ha;⟨g',w',es,s',h1,h2,h3,h4.2 e ho pc⟩
  refine⟨xg hs (fun K gs w t D cl sl m iM hI ho hK hm=>?_) fun e=>⟨hb e,rfl,fun ho pc=>hL e ho pc⟩,hL⟩
  subst hK
  obtain⟨g',w',es,s',hgo,_,ht,hT,_⟩:=h w (hI.base.fit.jL 0)
  obtain⟨k1,k2,k3,k4,k5,k6⟩:=hI.sy.AS ht g.frame.fn g.frame.place
  obtain⟨lh,u,cl',hr,zl,VT⟩:=hI.go0 (sl:=sl) hgo ⟨ht.os,ht.output⟩ k1 k2 k4 (hI.base.fit.own ht _ _) (fun op az x hx sw=>absurd sw (k5 op az x hx)) k6 (hI.Ix k3) hI.sy.Ct
  rw[ht.deaf] at zl
  exact Ends.next (hm.trans hr) (hT _ lh w' _ D cl' sl (VT.trans iM) zl ho (by rw[aE];exact St.le_refl _))
 mono:=fun g s s' hl h=>⟨h.1.mono hl,fun e ho pc=>(h.2 e ho pc).mono hl⟩
theorem Md.opened{mx a b c:Nat}{o:Option CK}(h:Md mx n a b c o st sm)(ho:o=none):st=(n:Int)*KK∧sm=0:=by
 cases h with
 |start=>exact⟨rfl,rfl⟩
 |_=>cases ho
theorem Fe{b:Bool}{os:List ι}{d':Nat}(hs:g.status= .running)(hb:b=false)
 (h:∀w st sm,WgAt E.ty E.Wg w st sm→(b=false→st=((os.length+pend:Nat):Int)*KK∧sm=0)→os.length+pend≤E.max→∃w',stepG E.P true g w= .go g' w' es∧eI E w w'∧WgAt E.ty E.Wg w' (((os.length+lZ:Nat):Int)*KK) 0)
 (zd:∀e∈es,iJ E e)(hd:deafBehind d0 es=d')(hp:os.length+pend≤E.max→os.length+lZ≤E.max)(hT:TC E L Q lZ b os d' g' s):TC E L Q pend b os d0 g s:=by
 subst hb
 refine xg hs (fun K gs w t D cl sl m iM hI ho hK hm=>?_) fun e=>(by cases e)
 subst hK
 have hcn:cl=none:=by cases cl<;>simp_all
 subst hcn
 have iY:=hI.sy.E1
 have axQ:∀D:List (au ι),(∀r∈D,r.early)→fo au.cnt D=(kM D).length∧fo au.c4 D=0∧fo au.c3 D=0∧fo au.c2 D=0:=by
  intro D
  induction D with
  |nil=>intro _;exact⟨rfl,rfl,rfl,rfl⟩
  |cons r D ih=>
   intro hr
   obtain⟨i1,i4,i3,i2⟩:=ih fun x hx=>hr x (by simp[hx])
   have:=hr r (by simp)
   simp only[fo,List.map_cons,List.sum_cons,kM,List.filterMap_cons] at*
   cases r<;>first|exact this.elim| (simp[au.cnt,au.c4,au.c3,au.c2,au.Yd,i1,i4,i3,i2];try omega)
 obtain⟨c1,c4,c3,c2⟩:=axQ D iY
 rw[ho] at c1
 obtain⟨st,sm,ha,mU⟩:=hI.sy.cells
 have JN:=hI.sy.Ct
 rw[c1] at JN
 have bW:st=((os.length+pend:Nat):Int)*KK∧sm=0:=by
  rw[c1] at mU
  exact mU.opened rfl
 obtain⟨w',hgo,htu,uV⟩:=h w st sm ha (fun _=>bW) JN
 have aFB:=iJ.ops zd 0 g.frame.fn g.frame.place
 obtain⟨lh,u,cl',hr,zl,VT⟩:=hI.go0 (sl:=sl) (s':=K 0) (lZ:=lZ) hgo htu.same (hI.sy.kW 0) (hI.sy.kC 0) (htu.block _ (Ne.symm hI.sy.ne)) (by rw[lX];exact hI.sy.Bn hI.base.fit (.inl rfl) htu zd _ _)
  (fun op az x hx _=>by rw[((aFB op az).2.2 x hx).2];exact⟨by simp,by simp⟩) (fun op az=>(aFB op az).2.1) (fun cl' hw=>by
   cases hw
   rw[c1,c4,c3,c2]
   exact⟨_,_,uV,.start⟩) (by rw[c1];exact hp JN)
 rw[hd] at zl
 exact Ends.next (hm.trans hr) (hT _ lh w' _ D cl' sl (VT.trans iM) zl ho (by rw[aE];exact St.le_refl _))
end
section
variable {ι:Type} {E:dO ι} {L:Nat→Option Obj} {K:Nat→St} {gs:Array Goroutine} {w w':World} {t:Trace} {D:List (au ι)} {pend d0:Nat} {cl:Ar} {sl:Option (Nat×Nat)}
 {Q:Machine→Outcome→World→Trace→Prop} {g g' child:Goroutine} {s iq:St} {es:Array Event}
theorem vJ(f:au ι→Nat)(D:List (au ι))(r:au ι):fo f (D++[r])=fo f D+f r:=by simp[fo]
theorem Inv.spawn(h:Inv E L K gs w t D pend none g 0)(hrw:(K 0).rw=[])(bW:stepG E.P true g w= .spawn g' child w #[])(hle:iq.le (K 0)){r:au ι}{cl':Ar} 
 (hr:r.left=false)(fe:∀t',Deaf t' gs.size=0→nV E t' gs.size iq child r)
 (hn:r.cnt+lZ=pend)(h4:r.c4=0)(h3:r.c3=0)(h2:r.c2=0)
 (iM:(cl'=none∧r.early)∨(∃n,cl'=some (D.length,.kd,n)∧r= .closer∧CK.at E iq child n .kd)):
 ∃lh u,runT E.P (crowd gs w sl) 0=(.next (crowd lh w sl),u)∧Inv E L (fJ K gs.size iq) lh w (t++u) (D++[r]) lZ cl' g' 0∧0 <gs.size:=by
 have u9:=h.base.size
 have bX:=runT_crowd_spawn (P:=E.P) (sl:=sl) (i:=0) h.main (by simpa using bW)
 have e0:MemOp.ofEvents 0 g.frame.fn g.frame.place #[]= #[]:=rfl
 rw[e0] at bX
 generalize hx:({g:=0,fn:=g.frame.fn,pos:=g.frame.place,act:= .go gs.size}:MemOp)=x at bX
 generalize hy:({g:=gs.size,fn:=child.frame.fn,pos:=g.frame.place,act:= .start}:MemOp)=y at bX
 have ex:x.g=0∧x.act= .go gs.size:=by rw[←hx];exact⟨rfl,rfl⟩
 have ey:y.g=gs.size∧y.act= .start:=by rw[←hy];exact⟨rfl,rfl⟩
 have eu:((#[]:Array MemOp).push x).push y= #[x,y]:=rfl
 rw[eu] at bX
 have hq:∀op∈ #[x,y],op.act.touch?=none:=by intro op az;simp at az;rcases az with rfl|rfl<;>simp[ex.2,ey.2,MemAct.touch?]
 have JO:∀op∈ #[x,y],∀m,op.act≠ .mark m:=by intro op az;simp at az;rcases az with rfl|rfl<;>simp[ex.2,ey.2]
 have hg:∀op∈ #[x,y],op.g=0∨op.g=gs.size:=by intro op az;simp at az;rcases az with rfl|rfl<;>simp[ex.1,ey.1]
 have NY:Deaf t gs.size=0:=ConcN.Deaf_absent fun i op ho e=>by have:=h.base.ops op (mem_of_getElem? ho);omega
 have zf:∀k,Deaf (t++ #[x,y]) k=Deaf t k:=fun k=>fU t k _ JO
 have aii:∀p,Knows t 0 p→Knows (t++ #[x,y]) gs.size p:=fun p hp=>ConcN.fork_knows ex ey h.deaf NY hp
 have mX:=h.base.fit.quiet (u:= #[x,y]) (w':=w) E.Ch h.sy.kC h.sy.lC (Nat.le_refl _) (fun _ _ _=>rfl) hq
 have hs0:iq.rw=[]:=by
  obtain⟨R,hR,_⟩:=hle
  rw[hrw] at hR
  have:=List.append_eq_nil_iff.1 (List.nil_perm.1 hR)
  exact this.1
 have A7:∀b o,iq.ro b=some o→(K 0).ro b=some o:=fun b o hb=>by
  obtain⟨R,hR,h2⟩:=hle
  rw[hrw] at hR
  have:=List.append_eq_nil_iff.1 (List.nil_perm.1 hR)
  rcases h2 b o hb with h3|h3
  ·exact h3
  rw[this.2] at h3;cases h3
 have aij:=mX.share (i:=0) (n:=gs.size) (by omega) iq hs0 A7 fun b hb p z hz hzb hzw=>by
  rcases bH hz with ⟨_,EI⟩| ⟨_,op,hm,_,hzo⟩
  ·refine aii p (h.base.fit.ri 0 b ?_ p z EI hzb hzw)
   cases mv:iq.ro b with
   |none=>exact absurd mv hb
   |some o=>rw[A7 b o mv];simp
  rw[hq op hm] at hzo;cases hzo
 have Jc:∀b,(∀j,¬(K j).knows b)→∀j,¬(fJ K gs.size iq j).knows b:=fun b hb j hk=>by
  by_cases e:j=gs.size
  ·subst e;rw[aE] at hk;exact hb 0 (hle.knows hk)
  rw[aH _ _ e] at hk;exact hb j hk
 have iY:=h.sy.E1
 have oE:∀ {k z},(D++[r])[k]?=some z→(k <D.length∧D[k]?=some z)∨(k=D.length∧z=r):=fun {k z} hk=>by
  rcases Nat.lt_trichotomy k D.length with cJ|e|hgt
  ·rw[List.getElem?_append_left cJ] at hk;exact .inl ⟨cJ,hk⟩
  ·subst e;rw[List.getElem?_append_right (Nat.le_refl _)] at hk;simp at hk;exact .inr ⟨rfl,hk.symm⟩
  rw[List.getElem?_eq_none (by simp;omega)] at hk;cases hk
 have hgs:∀k,k≠0→k <gs.size→((gs.setIfInBounds 0 g').push child)[k]?=gs[k]?:=fun k h0 cJ=>by
  rw[Array.getElem?_push_lt (by simpa using cJ),←Array.getElem?_eq_getElem,Array.getElem?_setIfInBounds_ne (Ne.symm h0)]
 have hgn:((gs.setIfInBounds 0 g').push child)[gs.size]?=some child:=by
  rw[Array.getElem?_push,if_pos (by simp)]
 refine⟨_,_,bX,⟨⟨aij,by simp[u9],fun k z hk=>?_,fun k hk b hb=>?_,fun op az=>?_,h.base.same⟩,
  ⟨Jc _ h.sy.kW,Jc _ h.sy.kC,h.sy.lW,h.sy.lC,h.sy.ne,fun a=>(h.sy.norel a).app fun op az=>JO op az _,fun j hj p z hz hzb hzk=>?_,?_,?_,?_,h.sy.chan,h.sy.bal,?_⟩,?_,by rw[zf];exact h.deaf⟩,by omega⟩
 ·rcases oE hk with ⟨cJ,jJ⟩| ⟨rfl,rfl⟩
  ·obtain⟨q,hqk,aRd⟩:=h.base.ok k z jJ
   exact⟨q,by rw[hgs _ (by omega) (by omega)];exact hqk,by rw[aH _ _ (by omega)];exact aRd.other fun op az=>by rcases hg op az with e|e<;>rw[e]<;>omega⟩
  refine⟨child,by rw[←u9];exact hgn,?_⟩
  rw[←u9,aE]
  exact fe _ (by rw[zf];exact NY)
 ·rw[Array.size_push,Array.size_setIfInBounds] at hk
  rw[aH _ _ (by omega)] at hb
  exact h.base.far k (by omega) b hb
 ·rw[Array.size_push,Array.size_setIfInBounds]
  rcases Array.mem_append.1 az with h'|h'
  ·have:=h.base.ops op h';omega
  rcases hg op h' with e|e<;>rw[e]<;>omega
 ·rcases bH hz with ⟨_,EI⟩| ⟨_,op,hm,_,hzo⟩
  ·rcases hj with rfl| ⟨k,q,rfl,hk,hl⟩
   ·exact(h.sy.plain 0 (.inl rfl) p z EI hzb hzk).app _
   rcases oE hk with ⟨_,jJ⟩| ⟨rfl,rfl⟩
   ·exact(h.sy.plain (k+1) (.inr ⟨k,q,rfl,jJ,hl⟩) p z EI hzb hzk).app _
   rw[←u9];exact aii p (h.sy.plain 0 (.inl rfl) p z EI hzb hzk)
  rw[hq op hm] at hzo;cases hzo
 ·have Pd:=h.sy.said
  rcases iM with ⟨rfl,_⟩| ⟨n,rfl,_,_⟩
  ·intro p z hz hzb hzk
   rcases bH hz with ⟨_,EI⟩| ⟨_,op,hm,_,hzo⟩
   ·exact(Pd p z EI hzb hzk).app _
   rw[hq op hm] at hzo;cases hzo
  intro _ p z hz hzb hzk
  rcases bH hz with ⟨_,EI⟩| ⟨_,op,hm,_,hzo⟩
  ·rw[←u9];exact aii p (Pd p z EI hzb hzk)
  rw[hq op hm] at hzo;cases hzo
 ·obtain⟨st,sm,ha,mU⟩:=h.sy.cells
  refine⟨st,sm,ha,?_⟩
  rw[vJ,vJ,vJ,vJ,h4,h3,h2,show fo au.cnt D+r.cnt+lZ=fo au.cnt D+pend by omega]
  rcases iM with ⟨rfl,_⟩| ⟨n,rfl,_,_⟩
  ·exact mU
  have z:∀(f:au ι→Nat),(∀r:au ι,r.early→f r=0)→fo f D=0:=fun f hf=>by
   unfold fo
   rw[List.sum_eq_zero_iff_forall_eq_nat]
   intro a uV
   obtain⟨q,Fs,rfl⟩:=List.mem_map.1 uV
   exact hf q (iY q Fs)
  have z4:=z au.c4 fun r hr=>by cases r<;>first|rfl|exact hr.elim
  have z3:=z au.c3 fun r hr=>by cases r<;>first|rfl|exact hr.elim
  have z2:=z au.c2 fun r hr=>by cases r<;>first|rfl|exact hr.elim
  obtain⟨rfl,rfl⟩:=mU.opened rfl
  rw[z4,z3,z2]
  exact .kd
 ·rw[vJ];have:=h.sy.Ct;omega
 ·rcases iM with ⟨rfl,TE⟩| ⟨n,rfl,rfl,pX⟩
  ·intro z hz
   rcases List.mem_append.1 hz with h'|h'
   ·exact iY z h'
   simp at h';subst h';exact TE
  refine⟨by simp,fun k hk=>?_,by rw[zf,←u9];exact NY,⟨child,by rw[←u9];exact hgn,by rw[←u9,aE];exact pX⟩,fun⟨_,e⟩=>(by cases e)⟩
  rcases oE hk with ⟨_,jJ⟩| ⟨e,_⟩
  ·exact(iY _ (List.mem_of_getElem? jJ)).elim
  exact e
 rw[Array.getElem?_push_lt (by simp;omega),←Array.getElem?_eq_getElem,Array.getElem?_setIfInBounds_self_of_lt (by omega)]
theorem Kc{os:List ι}{o:ι}(hs:g.status= .running)(hrw:s.rw=[])(bW:∀w,aR s w→stepG E.P true g w= .spawn g' child w #[])(hw:eJ E.P false (E.J7 o) child s)
 (hT:TC E L Q 0 false (os++[o]) 0 g' s):TC E L Q 1 false os 0 g s:=by
 refine xg hs (fun K gs w t D cl sl m iM hI ho hK hm=>?_) fun e=>(by cases e)
 subst hK
 have hcn:cl=none:=by cases cl<;>simp_all
 subst hcn
 obtain⟨tr,iq,hle,htr⟩:=hw
 obtain⟨lh,u,hr,zl,h0⟩:=hI.spawn (sl:=sl) (r:= .work o tr) (cl':=none) (lZ:=0) hrw (bW w (hI.base.fit.jL 0)) hle rfl (fun t' hd=>⟨hd,htr⟩) rfl rfl rfl rfl (.inl ⟨rfl,trivial⟩)
 exact Ends.next (hm.trans hr) (hT _ lh w _ _ none sl rfl zl (by simp[kM,List.filterMap_append,au.Yd] at ho ⊢;exact ho) (by rw[aH _ _ (by omega)];exact St.le_refl _))
theorem Kg{os:List ι}(hs:g.status= .running)(hrw:s.rw=[])(bW:∀w,aR s w→stepG E.P true g w= .spawn g' child w #[])(hw:E.closes s child)
 (hT:TC E L Q 0 true os 0 g' s):TC E L Q 0 false os 0 g s:=by
 refine xg hs (fun K gs w t D cl sl m iM hI ho hK hm=>?_) fun e=>(by cases e)
 subst hK
 have hcn:cl=none:=by cases cl<;>simp_all
 subst hcn
 obtain⟨n,hn⟩:=hw
 obtain⟨lh,u,hr,zl,h0⟩:=hI.spawn (sl:=sl) (iq:=K 0) (r:= .closer) (cl':=some (D.length,.kd,n)) (lZ:=0) hrw (bW w (hI.base.fit.jL 0)) (St.le_refl _) rfl (fun t' hd=>trivial) rfl rfl rfl rfl (.inr ⟨n,rfl,rfl,hn⟩)
 exact Ends.next (hm.trans hr) (hT _ lh w _ _ _ sl rfl zl (by rw[kM,List.filterMap_append];simp only[List.filterMap_cons,au.Yd,List.filterMap_nil,List.append_nil];exact ho) (by rw[aH _ _ (by omega)];exact St.le_refl _))
end
section
variable {ι:Type} {E:dO ι} {Q:Machine→Outcome→World→Trace→Prop} {g:Goroutine} {s s':St}
theorem PS{L:Nat→Option Obj}(hs:g.status= .running)(dI:E.Wg≠E.Ch)
 (hW:(E.Wg,wgBlock E.ty 0 0)∈s.rw)(hC:∃tm,(E.Ch,Obj.chan 0 #[] false 0 0 tm)∈s.rw)
 (hle:s'.le s)(hkW:¬s'.knows E.Wg)(hkC:¬s'.knows E.Ch)(kP:∀b,s'.iW b→L b=none)
 (hL:∀b o,L b=some o→s.has b o∧b≠E.Wg∧b≠E.Ch)
 (hT:TC E L Q 0 false [] 0 g s'):TL E.P eB (fun _=>none) (Calm E.os E.out) Q g s:=by
 intro K gs w t q sl hLv h0 aRL hd ⟨awR,ahq⟩
 have hLv:=hLv.le aRL
 have hs0:(fJ K 0 s) 0=s:=aE _ _ _
 have pJ:=hLv.fit.jL 0
 rw[hs0] at pJ
 obtain⟨tm,hC⟩:=hC
 have hWw:=pJ.rw _ _ hW
 have hCw:=pJ.rw _ _ hC
 have hex:∀i,i <q.length→∃d,∃x,gs[i+1]?=some x∧QuitsD E.P (q.getD i 0) d x∧Deaf t (i+1)=d∧eB t (i+1):=fun i hi=>by
  obtain⟨x,d,h1,h2,h3,h4⟩:=hLv.ok i _ (List.getElem?_eq_getElem hi)
  exact⟨d,x,h1,by rw[List.getD_eq_getElem?_getD,List.getElem?_eq_getElem hi];exact h2,h3,h4⟩
 let D:List (au ι):=(List.range q.length).map fun i=>au.leave (q.getD i 0) (Deaf t (i+1)) false
 have hD:∀i r,D[i]?=some r→i <q.length∧r=au.leave (q.getD i 0) (Deaf t (i+1)) false:=fun i r hi=>by
  simp only[D,List.getElem?_map] at hi
  obtain⟨j,hj,rfl⟩:=Option.map_eq_some_iff.1 hi
  obtain⟨cJ,rfl⟩:=List.getElem?_eq_some_iff.1 hj
  simp only[List.length_range] at cJ
  simp only[List.getElem_range]
  exact⟨cJ,trivial⟩
 have iX:∀r∈D,∃a b,r=au.leave a b false:=fun r hr=>by
  obtain⟨i,hi⟩:=List.getElem?_of_mem hr
  exact⟨_,_,(hD i r hi).2⟩
 have hzero:∀f:au ι→Nat,(∀a b,f (.leave a b false)=0)→fo f D=0:=fun f hf=>by
  unfold fo
  rw[List.sum_eq_zero_iff_forall_eq_nat]
  intro x hx
  obtain⟨r,hr,rfl⟩:=List.mem_map.1 hx
  obtain⟨a,b,rfl⟩:=iX r hr
  exact hf a b
 let K':Nat→St:=fun j=>if j=0 then s' else ⟨fun _=>none,[]⟩
 have Zw:K' 0=s':=by simp[K']
 have hKn:∀j,j≠0→K' j=⟨fun _=>none,[]⟩:=fun j hj=>by simp[K',hj]
 have none:∀j b,j≠0→¬(K' j).knows b:=fun j b hj hk=>by
  rw[hKn j hj] at hk
  rcases hk with hk| ⟨o,ho⟩
  ·exact hk rfl
  cases ho
 have HH:Fit (fun _=>Option.none) K' w t:=hLv.fit.le fun j=>by
  by_cases e:j=0
  ·subst e;rw[Zw,hs0];exact hle
  rw[hKn j e];exact⟨(fJ K 0 s j).rw,by simp,fun b o hb=>(by cases hb)⟩
 have aij:Fit L K' w t:=by
  refine⟨fun b o hl=>pJ.has (hL b o hl).1,fun i b ho=>?_,HH.jL,HH.sep,HH.perm,HH.ri,HH.old,HH.clean,fun p x b hx hk hb=>⟨?_,(HH.sync p x b hx hk hb).2⟩⟩
  ·by_cases e:i=0
   ·subst e;rw[Zw] at ho;exact kP b ho
   exact absurd (.inr ho) (none i b e)
  cases hl:L b with
  |none=>rfl
  |some o=>
   have:=(hLv.fit.sync p x b hx hk hb).2 0
   rw[hs0] at this
   rcases(hL b o hl).1 with h1|h1
   ·exact absurd (.inl (by rw[h1];simp)) this
   exact absurd (.inr ⟨o,h1⟩) this
 have hLb:∀b,(b=E.Wg∨b=E.Ch)→L b=Option.none:=fun b hb=>by
  cases hl:L b with
  |none=>rfl
  |some o=>
   rcases hb with e|e
   ·exact absurd e (hL b o hl).2.1
   exact absurd e (hL b o hl).2.2
 have hKk:∀b,¬s'.knows b→∀j,¬(K' j).knows b:=fun b hb j=>by
  by_cases e:j=0
  ·subst e;rw[Zw];exact hb
  exact none j b e
 have aq3:∀p x,touchAt t p=some x→blk x.loc=some E.Wg→Knows t 0 p:=fun p x hx hb=>hLv.fit.perm 0 E.Wg (by rw[hs0];exact⟨_,hW⟩) p x hx hb
 have aDF:∀p x,touchAt t p=some x→E.At x→Knows t 0 p:=fun p x hx hb=>hb.elim (aq3 p x hx) fun hb=>hLv.fit.perm 0 E.Ch (by rw[hs0];exact⟨_,hC⟩) p x hx hb
 refine hT K' gs w t D Option.none sl rfl ⟨⟨aij,by simp[D,hLv.size],fun i r hi=>?_,fun i hi b=>?_,hLv.ops,ahq⟩,
  ⟨hKk _ hkW,hKk _ hkC,hLb _ (.inl rfl),hLb _ (.inr rfl),dI,awR,fun j hj p x hx hb _=>?_,fun p x hx hb _=>aq3 p x hx hb,⟨0,0,hWw,?_⟩,?_,⟨0,0,tm,hCw⟩,fun a b c hx=>?_,fun r hr=>?_⟩,h0,hd⟩ ?_ (by rw[Zw];exact St.le_refl _)
 ·obtain⟨cJ,rfl⟩:=hD i r hi
  obtain⟨d,x,h1,h2,h3,h4⟩:=hex i cJ
  exact⟨x,h1,hKn _ (by omega),by rw[h3];exact h2,rfl,(fun e=>(by cases e)),fun _=>h4⟩
 ·exact none i b (by have:=hLv.size;omega)
 ·rcases hj with rfl| ⟨k,r,rfl,hk,hl⟩
  ·exact aDF p x hx hb
  obtain⟨_,rfl⟩:=hD k r hk;cases hl
 ·rw[hzero au.cnt fun _ _=>rfl,hzero au.c4 fun _ _=>rfl,hzero au.c3 fun _ _=>rfl,hzero au.c2 fun _ _=>rfl]
  have:=Md.start (mx:=E.max) (n:=0)
  simpa using this
 ·rw[hzero au.cnt fun _ _=>rfl];omega
 ·rw[hCw] at hx
  simp only[Option.some.injEq,Obj.chan.injEq] at hx
  omega
 ·obtain⟨a,b,rfl⟩:=iX r hr;rfl
 unfold kM
 rw[List.filterMap_eq_nil_iff]
 intro r hr
 obtain⟨a,b,rfl⟩:=iX r hr;rfl
end
theorem DR(os:Os)(out:Array (Nat×ByteArray)):aaj (Calm os out) where
 grow:=fun _ _ _ _ h hu=>⟨fun a=>(h.1 a).app fun op az=>hu op az a,h.2⟩
 drawn:=fun _ _ _ _ h=>h
 le:=fun _ _ _ _ h _=>h
 own:=fun _ _ _ _ _ _ _ h ht hu=>⟨fun a=>(h.1 a).app fun op az=>hu op az a,ht.os.trans h.2.1,ht.output.trans h.2.2⟩
def T0(P:Program)(os:Os)(out:Array (Nat×ByteArray))(Post:Value→World→Prop):Goroutine→St→Prop:=TL P eB (fun _=>none) (Calm os out) (Good P Post)
theorem sQ(P:Program)(os:Os)(out:Array (Nat×ByteArray))(Post:Value→World→Prop):Closed P true (T0 P os out Post):=Ka D6 (DR os out) _
theorem aaF{os:Os}{out:Array (Nat×ByteArray)}{Post:Value→World→Prop}{s:St}(hs:g.status= .running)
 (bW:∀w,aR s w→w.os=os→w.output=out→∃v w' es s',stepG P true g w= .ended (.done v) w' es∧Post v w'∧Trans s w s' w' es):T0 P os out Post g s:=by
 refine MG D6 (DR os out) hs fun K gs w t q sl m hL h0 hK hd hi hm hmg=>?_
 subst hK
 obtain⟨v,w',es,s',hgo,hp,ht⟩:=bW w (hL.fit.jL 0) hi.2.1 hi.2.2
 have hr:=ConcN.runT_crowd_ended (P:=P) (sl:=sl) (i:=0) h0 (by simpa using hgo)
 have mX:=hL.fit.own ht g.frame.fn g.frame.place
 generalize hu:MemOp.ofEvents 0 g.frame.fn g.frame.place es=u at hr mX
 have Lz:∀op∈u,op.g=0:=by rw[←hu];exact fun op az=>Go.ConcR.g_of_ofEvents op az
 refine⟨0,m,.done v,w',t++u,by simp[runNT,hm,hr],rfl,by simp[step,hm,hr],v,rfl,hp,mX.clean,fun i k hk dI hc=>?_,⟨fun x hx=>?_,by rw[hmg.2];rfl⟩,fun i x hx dI=>?_⟩
 ·obtain⟨op,ho,bem⟩:=Option.map_eq_some_iff.1 hk
  cases k with
  |zero=>exact absurd rfl dI
  |succ k=>
   have cJ:op.g <gs.size:=by
    rcases Array.mem_append.1 (mem_of_getElem? ho) with h'|h'
    ·exact hL.ops op h'
    rw[Lz op h',hL.size];omega
   have hkq:k <q.length:=by have:=hL.size;omega
   obtain⟨_,_,_,_,_,bY⟩:=hL.ok k _ (List.getElem?_eq_getElem hkq)
   exact(bY.other fun op az=>by rw[Lz op az];omega) i hk hc
 ·rw[hmg.1] at hx
  obtain⟨j,hj⟩:=List.getElem?_of_mem hx
  rw[List.getElem?_drop,Array.getElem?_toList] at hj
  have hjq:j <q.length:=by have:=lt_size hj;have:=hL.size;omega
  obtain⟨y,d,hy,hq,_⟩:=hL.ok j _ (List.getElem?_eq_getElem hjq)
  rw[Nat.add_comm] at hj
  rw[hj] at hy
  obtain rfl:=Option.some.inj hy
  exact⟨_,hq.leaves⟩
 rw[hmg.1] at hx
 cases i with
 |zero=>exact absurd rfl dI
 |succ j=>
  have hjq:j <q.length:=by have:=lt_size hx;have:=hL.size;omega
  obtain⟨y,d,hy,hq,hdd,_⟩:=hL.ok j _ (List.getElem?_eq_getElem hjq)
  rw[hx] at hy
  obtain rfl:=Option.some.inj hy
  refine⟨q[j],?_⟩
  have e:(t++u).deaf (j+1) (t++u).size=d:=by
   have:=gM t u (g:=j+1) fun op az=>by rw[Lz op az];omega
   unfold Deaf at this hdd
   rw[this];exact hdd
  rw[e]
  exact hq.hears m.world
theorem aev{Post:Value→World→Prop}{s:St}{w:World}(ha:aR s w)(h:T0 P w.os w.output Post g s):Ends P (Good P Post) (solo g w) #[]:=by
 rw[solo_eq_crowd]
 have CW:∀p x,touchAt #[] p=some x→False:=fun p x hx=>by simp[touchAt,Trace.act?] at hx
 have hn:∀i,i≠0→∀b,¬((if i=0 then s else ⟨fun _=>none,[]⟩:St)).knows b:=fun i hi b hk=>by
  rw[if_neg hi] at hk
  rcases hk with hk| ⟨o,ho⟩
  ·exact hk rfl
  cases ho
 refine h (fun j=>if j=0 then s else ⟨fun _=>none,[]⟩) #[g] w #[] [] none ⟨⟨(fun _ _ e=>(by cases e)),fun _ _ _=>rfl,fun i=>?_,fun i j b Jb ho hk=>?_,fun _ _ _ p x hx=>(CW p x hx).elim,fun _ _ _ p x hx=>(CW p x hx).elim,
  fun p x _ hx=>(CW p x hx).elim,(fun said ⟨i,j,_,⟨a,b,h1,_⟩,_⟩=>by simp[Trace.act?] at h1),fun p x _ hx=>(CW p x hx).elim⟩,rfl,fun i n hi=>by simp at hi,fun i b hi hk=>hn i hi b hk,by simp⟩ rfl (by simp only[if_true];exact St.le_refl _) rfl ⟨fun a i=>by simp[Trace.act?],rfl,rfl⟩
 ·by_cases e:i=0
  ·simp only[e,if_true];exact ha
  simp only[if_neg e];exact⟨(fun _ _ e=>(by cases e)),(fun _ _ e=>(by cases e)),by simp,(fun _ _ e=>(by cases e))⟩
 by_cases e:j=0
 ·exact hn i (fun e'=>Jb (e'.trans e.symm)) b (.inr ho)
 exact hn j e b hk
section
variable {ι:Type} {E:dO ι} {L:Nat→Option Obj} {pend d0:Nat} {Q:Machine→Outcome→World→Trace→Prop} {g g':Goroutine} {s:St} {os:List ι}
theorem Xy(hs:g.status= .running)(bW:∀w,E.live w→stepG E.P true g w= .go g' w #[])(hT:TC E L Q pend false os d0 g' s):TC E L Q pend false os d0 g s:=
 Fe (es:= #[]) (lZ:=pend) hs rfl (fun w st sm ha hb _=>⟨w,bW w ⟨st,sm,ha⟩,eI.refl w,by obtain⟨rfl,rfl⟩:=hb rfl;exact ha⟩) (by simp) rfl id hT
theorem amw(hs:g.status= .running)(bW:∀w,E.live w→stepG E.P true g w= .go g' w #[said (.read (smA E.Wg))])(hT:TC E L Q pend false os d0 g' s):TC E L Q pend false os d0 g s:=by
 refine xg hs (fun K gs w t D cl sl m iM hI ho hK hm=>?_) fun e=>(by cases e)
 subst hK
 have hcn:cl=none:=by cases cl<;>simp_all
 subst hcn
 obtain⟨st,sm,ha,_⟩:=hI.sy.cells
 have hgo:=bW w ⟨st,sm,ha⟩
 have e1:MemOp.ofEvents 0 g.frame.fn g.frame.place #[said (.read (smA E.Wg))]= #[{g:=0,fn:=g.frame.fn,pos:=g.frame.place,act:= .mark (.read (smA E.Wg))}]:=by rw[ofEvents_eq];simp[said,Go.ConcR.ofEvent_mk]
 have awK:∀op∈MemOp.ofEvents 0 g.frame.fn g.frame.place #[said (.read (smA E.Wg))],op.g=0∧op.act= .mark (.read (smA E.Wg)):=by
  rw[e1];intro op az;simp only[List.mem_toArray,List.mem_singleton] at az;subst az;exact⟨rfl,rfl⟩
 have htc:∀op∈MemOp.ofEvents 0 g.frame.fn g.frame.place #[said (.read (smA E.Wg))],∀x,op.act.touch?=some x→x=⟨.cell (smA E.Wg),false,.said⟩:=fun op az x hx=>by
  rw[(awK op az).2] at hx;simp only[MemAct.touch?,Option.some.injEq] at hx;exact hx.symm
 obtain⟨lh,u,cl',hr,zl,VT⟩:=hI.go0 (sl:=sl) (s':=K 0) (lZ:=pend) hgo ⟨rfl,rfl⟩ (hI.sy.kW 0) (hI.sy.kC 0) rfl (by
  rw[lX]
  refine hI.base.fit.beside E.Wg 0 hI.sy.kW hI.sy.lW (lt_size ha) (Nat.le_refl _) (fun _ _ _=>rfl) (fun op az=>(awK op az).1) fun op az x hx=>?_
  obtain rfl:=htc op az x hx
  refine⟨rfl,fun sd p a uV hc=>?_⟩
  have hl:blk a.loc=some E.Wg:=by rw[hc.1];rfl
  rcases hc.2.2.2 with h3|h3|h3
  ·exact hI.sy.plain 0 (.inl rfl) p a uV (.inl hl) h3
  ·cases h3
  ·exact hI.sy.said p a uV hl h3.2.1)
  (fun op az x hx _=>by obtain rfl:=htc op az x hx;exact⟨by simp,fun _=>rfl⟩) (fun op az a=>by rw[(awK op az).2];simp) (hI.Ix rfl) hI.sy.Ct
 exact Ends.next (hm.trans hr) (hT _ lh w _ D cl' sl (VT.trans iM) zl ho (by rw[aE];exact St.le_refl _))
end
abbrev Mz:=Option Value×Option Value
abbrev jq:Mz:=(none,none)
def Iz:Mz→Nat→Option Value
 | (a,_),0=>a
 | (_,b),1=>b
 |_,_=>none
theorem Tb(off:Nat):Iz jq off=none:=by
 match off with
 |0=>rfl
 |1=>rfl
 |_+2=>rfl
def OA:Mz→Nat→Value→Mz
 | (_,b),0,v=>(some v,b)
 | (a,_),1,v=>(a,some v)
 |c,_,_=>c
inductive RH(α:Type) where
 |ok (a:α)
 |halt (h:Halt)
structure VO(α:Type) where
 r:RH α
 ws:List (Nat×Value)
 es:List Event
 bs:List Nat
def u2(P:Program)(ty:TypeId):Sem α→Mz→Option (VO α)
 | .pure a,_=>some ⟨.ok a,[],[],[]⟩
 | .load m a k,c=>match a.spot with
  |some _=>none
  |none=>match Iz c a.off with
   |some v=>match u2 P ty (k v) c with
    |some o=>some ⟨o.r,o.ws,⟨.cell a,false,m== .atomic⟩::o.es,a.block::o.bs⟩
    |none=>none
   |none=>none
 | .store m a v k,c=>match a.spot with
  |some _=>none
  |none=>bif single v then (match Iz c a.off with
   |some _=>match u2 P ty k (OA c a.off v) with
    |some o=>some ⟨o.r,(a.off,v)::o.ws,⟨.cell a,true,m== .atomic⟩::o.es,a.block::o.bs⟩
    |none=>none
   |none=>none) else none
 | .shape r k,c=>match u2 P ty (k (some (ty,2))) c with
  |some o=>some ⟨o.r,o.ws,o.es,r::o.bs⟩
  |none=>none
 | .frozen a k,c=>match u2 P ty (k false) c with
  |some o=>some ⟨o.r,o.ws,o.es,a.block::o.bs⟩
  |none=>none
 | .program k,c=>u2 P ty (k P) c
 | .mark m k,c=>match u2 P ty k c with
  |some o=>some ⟨o.r,o.ws,⟨.mark m,false,true⟩::o.es,o.bs⟩
  |none=>none
 | .halt h,_=>some ⟨.halt h,[],[],[]⟩
 |_,_=>none
def mh(ty:TypeId)(W:Nat)(w:World)(c:Mz):Prop:=∃a b,w.heap[W]?=some (.cells #[a,b] ty)∧(∀x,c.1=some x→a=x)∧∀x,c.2=some x→b=x
theorem mh.aeF{w:World}{c:Mz}(h:mh ty W w c):∃a b,w.heap[W]?=some (.cells #[a,b] ty):=by
 obtain⟨a,b,h,_⟩:=h
 exact⟨a,b,h⟩
def Nd(W:Nat)(w:World)(ws:List (Nat×Value)):World:=ws.foldl (fun w x=>w.setCell ⟨W,x.1,none⟩ x.2) w
def RH.to(w:World):RH α→Result α
 | .ok a=> .ok a w
 | .halt h=> .halt h w
theorem Iy{w:World}{c:Mz}(h:mh ty W w c){v:Value}(hv:Iz c off=some v):w.cell? ⟨W,off,none⟩=some v:=by
 obtain⟨p,q,h,h1,h2⟩:=h
 unfold Iz at hv
 split at hv<;>try (cases hv;done)
 ·rw[←h1 _ hv];simp[World.cell?,h]
 rw[←h2 _ hv];simp[World.cell?,h]
theorem acI{w:World}{c:Mz}(h:mh ty W w c){u v:Value}(hv:Iz c off=some u):mh ty W (w.setCell ⟨W,off,none⟩ v) (OA c off v):=by
 obtain⟨p,q,h,h1,h2⟩:=h
 unfold Iz at hv
 split at hv<;>try (cases hv;done)
 ·exact⟨v,q,by simp[World.setCell,Array.getElem?_modify,h],by simp[OA],fun x hx=>h2 x hx⟩
 exact⟨p,v,by simp[World.setCell,Array.getElem?_modify,h],fun x hx=>h1 x hx,by simp[OA]⟩
theorem aei{w:World}{a b:Value}(h:w.heap[W]?=some (.cells #[a,b] ty)) (off:Nat) (s:Option Nat):w.frozen? ⟨W,off,s⟩=false:=by
 simp[World.frozen?,h]
theorem MO(x:Sem α):∀ {c:Mz} {o:VO α} {w:World} (es:Array Event),u2 P ty x c=some o→(∀b∈o.bs,b=W)→((c=jq∧o.bs=[])∨mh ty W w c)→x.runT P w es=(o.r.to (Nd W w o.ws),es++o.es.toArray):=by
 induction x with
 |pure a=>intro c o w es h hb hc;simp only[u2,Option.some.injEq] at h;subst h;simp[Sem.runT,RH.to,Nd]
 |halt a=>intro c o w es h hb hc;simp only[u2,Option.some.injEq] at h;subst h;simp[Sem.runT,RH.to,Nd]
 |load m a k ih=>
  intro c o w es h hb hc
  simp only[u2] at h
  split at h<;>try (cases h;done)
  rename_i hs
  split at h<;>try (cases h;done)
  rename_i v hv
  split at h<;>try (cases h;done)
  rename_i o1 h1
  simp only[Option.some.injEq] at h;subst h
  have e:a=⟨W,a.off,none⟩:=by
   have:=hb a.block (by simp)
   rcases a with ⟨x,y,z⟩
   simp only at hs this
   subst hs this;rfl
  have tv:mh ty W w c:=hc.elim (fun hh=>by rw[hh.1] at hv;rw[Tb] at hv;cases hv) id
  have HN:w.cell? a=some v:=by rw[e];exact Iy tv hv
  simp only[Sem.runT,HN]
  rw[ih v _ h1 (fun b hm=>hb b (by simp[hm])) (.inr tv)]
  simp
 |store m a v k ih=>
  intro c o w es h hb hc
  simp only[u2] at h
  split at h<;>try (cases h;done)
  rename_i hs
  cases hsg:single v with
  |false=>rw[hsg] at h;cases h
  |true=>
  rw[hsg] at h;simp only[cond_true] at h
  split at h<;>try (cases h;done)
  rename_i u hu
  split at h<;>try (cases h;done)
  rename_i o1 h1
  simp only[Option.some.injEq] at h;subst h
  have e:a=⟨W,a.off,none⟩:=by
   have:=hb a.block (by simp)
   rcases a with ⟨x,y,z⟩
   simp only at hs this
   subst hs this;rfl
  have tv:mh ty W w c:=hc.elim (fun hh=>by rw[hh.1] at hu;rw[Tb] at hu;cases hu) id
  have HN:w.cell? a=some u:=by rw[e];exact Iy tv hu
  have hfz:w.frozen? a=false:=by
   obtain⟨p,q,Zb⟩:=tv.aeF
   rw[e];exact aei Zb _ _
  have oY:=acI (v:=v) tv hu
  have key:(Sem.store m a v k).runT P w es=k.runT P (w.setCell a v) (es.push ⟨.cell a,true,m== .atomic⟩):=by
   cases v<;>first| (cases hsg;done)|simp[Sem.runT,HN,hfz]
  rw[key,ih _ h1 (fun b hm=>hb b (by simp[hm])) (.inr (by rw[e];exact oY))]
  simp only[Nd,List.foldl_cons]
  rw[←e]
  simp
 |shape r k ih=>
  intro c o w es h hb hc
  simp only[u2] at h
  split at h<;>try (cases h;done)
  rename_i o1 h1
  simp only[Option.some.injEq] at h;subst h
  have e:r=W:=hb r (by simp)
  have tv:mh ty W w c:=hc.elim (fun hh=>by cases hh.2) id
  have hsh:w.shape? r=some (ty,2):=by
   obtain⟨p,q,Zb⟩:=tv.aeF
   rw[e];simp[World.shape?,Zb]
  simp only[Sem.runT,hsh]
  exact ih _ _ h1 (fun b hm=>hb b (by simp[hm])) (.inr tv)
 |frozen a k ih=>
  intro c o w es h hb hc
  simp only[u2] at h
  split at h<;>try (cases h;done)
  rename_i o1 h1
  simp only[Option.some.injEq] at h;subst h
  have e:a.block=W:=hb a.block (by simp)
  have tv:mh ty W w c:=hc.elim (fun hh=>by cases hh.2) id
  have hsh:w.frozen? a=false:=by
   obtain⟨p,q,Zb⟩:=tv.aeF
   rcases a with ⟨x,y,z⟩
   simp only at e;subst e;exact aei Zb _ _
  simp only[Sem.runT,hsh]
  exact ih _ _ h1 (fun b hm=>hb b (by simp[hm])) (.inr tv)
 |program k ih=>
  intro c o w es h hb hc
  simp only[u2] at h
  simp only[Sem.runT]
  exact ih _ _ h hb hc
 |mark m k ih=>
  intro c o w es h hb hc
  simp only[u2] at h
  split at h<;>try (cases h;done)
  rename_i o1 h1
  simp only[Option.some.injEq] at h;subst h
  simp only[Sem.runT]
  rw[ih _ h1 (fun b hm=>hb b hm) hc]
  simp
 |new o k ih=>intro c o w es h;cases h
 |freeze a n k ih=>intro c o w es h;cases h
 |getObj r k ih=>intro c o w es h;cases h
 |setObj r o k ih=>intro c o w es h;cases h
 |choose q k ih=>intro c o w es h;cases h
 |sys q k ih=>intro c o w es h;cases h
def ay4(fr:Frame):Option Frame:=
 match fr.todo with
 | []=>match fr.roundOf with
  |none=>some {fr with mode:= .returning}
  |some _=>none
 | .code .ret::_=>match fr.roundOf with
  |none=>some {fr with mode:= .returning}
  |some _=>none
 | .code .skip::k=>some {fr with todo:=k}
 | .code (.label _)::k=>some {fr with todo:=k}
 | .inBlock _::k=>some {fr with todo:=k}
 | .inScope _::k=>some {fr with todo:=k}
 | .code (.seq a b)::k=>some {fr with todo:= .code a:: .code b::k}
 | .code (.cond c x y)::k=>match fr.eval c with
  | .bool b=>some {fr with todo:= .code (if b then x else y)::k}
  |_=>none
 | .code (.block id body)::k=>some {fr with todo:= .code body:: .inBlock id::k}
 | .code (.loop body)::k=>some {fr with todo:= .code body:: .inLoop body::k}
 | .inLoop body::k=>some {fr with todo:= .code body:: .inLoop body::k}
 | .code (.scope body)::k=>some {fr with todo:= .code body:: .inScope body::k}
 | .code (.exit id)::k=>match exitTo id k with
  |some k'=>some {fr with todo:=k'}
  |none=>none
 | .code (.region _ ops false)::k=>some {fr with todo:= .inRegion ops (List.range ops.size)::k}
 | .inRegion _ []::k=>some {fr with todo:=k}
 | .inRegion ops (i::_)::_=>if ((ops[i]?).map (Region.wanted · (yielded ops fr.tmps))).getD false then none else some (fr.finish undef)
 |_=>none
theorem apz(hm:fr.mode= .run)(h:ay4 fr=some nO)(w:World):stepG P main (G fr cs) w= .go (G nO cs) w #[]:=by
 rcases fr with ⟨fn,tmps,todo,defers,mode,kind,ro⟩
 simp only at hm;subst hm
 unfold ay4 at h
 simp only at h
 split at h
 all_goals try (cases h;done)
 all_goals try (simp only[Option.some.injEq] at h;subst h;simp[G,stepG,stepG.exec];done)
 ·split at h<;>try (cases h;done)
  simp only[Option.some.injEq] at h;subst h;simp[G,stepG,stepG.exec]
 ·split at h<;>try (cases h;done)
  simp only[Option.some.injEq] at h;subst h;simp[G,stepG,stepG.exec]
 ·split at h<;>try (cases h;done)
  rename_i b hb
  simp only[Option.some.injEq] at h;subst h
  simp only[G,stepG,stepG.exec,hb]
 ·split at h<;>try (cases h;done)
  rename_i b hb
  simp only[Option.some.injEq] at h;subst h
  simp[G,stepG,stepG.exec,hb]
 split at h<;>try (cases h;done)
 rename_i hw
 simp only[Option.some.injEq] at h;subst h
 simp only[G,stepG,stepG.exec,hw]
 simp
inductive OV where
 |go (fr:Frame) (iu:List Frame)
 |ret (v:Value)
 |aug
 |block
abbrev OVs:=Option (OV×List (Nat×Value)×List Event×List Nat)
def uP(P:Program)(fn:FuncId)(es:List Event):List Event:=(seen P fn es.toArray).toList
def YQ:CallKind→Bool
 | .early=>true
 |_=>false
def afG(P:Program)(ty:TypeId)(c:Mz)(fr:Frame)(iu:List Frame):OVs:=
 match fr.todo with
 | .inRegion ops (i::_)::_=>bif ((ops[i]?).map (Region.wanted · (yielded ops fr.tmps))).getD false&& !(YQ fr.kind) then (match fr.roundOf,fr.oper? with
  |none,some o=>match u2 P ty (execOp fr.eval o) c with
   |some ⟨.ok (.value v),ws,es,bs⟩=>some (.go (fr.finish v) iu,ws,uP P fr.fn es,bs)
   |some ⟨.ok .skip,ws,es,bs⟩=>some (.go (fr.finish undef) iu,ws,uP P fr.fn es,bs)
   |some ⟨.ok (.enter f args),ws,es,bs⟩=>some (.go (Frame.enter P f args .normal) (fr::iu),ws,uP P fr.fn es,bs)
   |some ⟨.ok (.defer d),ws,es,bs⟩=>some (.go ({fr with defers:=d::fr.defers}.finish undef) iu,ws,uP P fr.fn es,bs)
   |some ⟨.halt .blocked,ws,_,bs⟩=>some (.block,ws,[],bs)
   |_=>none
  |_,_=>none) else none
 |_=>none
def aEM:Target→Bool
 | .fn .. =>true
 |_=>false
def atw(P:Program)(ty:TypeId)(c:Mz)(fr:Frame)(iu:List Frame):OVs:=
 match fr.defers with
 | []=>match P.funcs[fr.fn]? with
  |some fn=>match u2 P ty (results fn fr.tmps) c with
   |some ⟨.ok v,ws,es,bs⟩=>match iu with
    |q::fZ=>match fr.kind with
     | .normal=>some (.go (q.finish v) fZ,ws,uP P fr.fn es,bs)
     | .deferred=>match q.mode with
      | .returning=>some (.go q fZ,ws,uP P fr.fn es,bs)
      |_=>none
     |_=>none
    | []=>match fr.kind with
     | .normal=>some (.ret v,ws,uP P fr.fn es,bs)
     | .deferred=>some (.aug,ws,uP P fr.fn es,bs)
     |_=>none
   |_=>none
  |none=>none
 |d::ds=>bif aEM d.target then (match u2 P ty (invoke d.target d.args) c with
  |some ⟨.ok (.value _),ws,es,bs⟩=>some (.go {fr with defers:=ds} iu,ws,uP P fr.fn es,bs)
  |some ⟨.ok (.enter f args),ws,es,bs⟩=>some (.go (Frame.enter P f args .deferred) ({fr with defers:=ds}::iu),ws,uP P fr.fn es,bs)
  |_=>none) else none
def QQ(P:Program)(ty:TypeId)(c:Mz)(fr:Frame)(iu:List Frame):OVs:=
 match fr.mode with
 | .run=>match ay4 fr with
  |some nO=>some (.go nO iu,[],[],[])
  |none=>afG P ty c fr iu
 | .returning=>atw P ty c fr iu
 |_=>none
def OV.is(P:Program)(main:Bool)(g:Goroutine)(w w':World)(es:Array Event)(cs:List Frame):OV→Prop
 | .go fr iu=>stepG P main g w= .go (G fr (iu++cs)) w' es
 | .ret v=>(∀c Jj,cs=c::Jj→stepG P main g w= .go (G (c.finish v) Jj) w' es)
 | .aug=>(∀c Jj,cs=c::Jj→(c.mode= .returning∨∃ch,c.mode= .panicking [⟨ch,false,true⟩])→stepG P main g w= .go (G c Jj) w' es)
 | .block=>stepG P main g w= .go {g with status:= .blocked} w' es
section
variable {P:Program} {main:Bool} {ty:TypeId} {W:Nat} {c:Mz} {fr:Frame} {iu cs:List Frame} {w:World} {o:OV} {ws:List (Nat×Value)} {es:List Event} {bs:List Nat}
theorem toArr(P:Program)(fn:FuncId)(es:List Event):(uP P fn es).toArray=seen P fn es.toArray:=by simp[uP]
theorem afF(hm:fr.mode= .run)(h:afG P ty c fr iu=some (o,ws,es,bs))(hb:∀b∈bs,b=W)(hc:(c=jq∧bs=[])∨mh ty W w c)(cs:List Frame)(main:Bool):o.is P main (G fr (iu++cs)) w (Nd W w ws) es.toArray cs:=by
 rcases fr with ⟨fn,tmps,todo,defers,mode,kind,ro⟩
 simp only at hm;subst hm
 unfold afG at h
 simp only at h
 split at h<;>try (cases h;done)
 rename_i ops i rest k
 cases hw:(((ops[i]?).map (Region.wanted · (yielded ops tmps))).getD false&& !(YQ kind)) with
 |false=>rw[hw] at h;cases h
 |true=>
 rw[hw] at h;simp only[cond_true] at h
 simp only[Bool.and_eq_true] at hw
 have hk:(kind==CallKind.early)=false:=by cases kind<;>first|rfl|cases hw.2
 split at h<;>try (cases h;done)
 rename_i op az
 have gA:∀cs,stepG P main (G ⟨fn,tmps,.inRegion ops (i::rest)::k,defers,.run,kind,none⟩ cs) w=stepG.apply P true ⟨fn,tmps,.inRegion ops (i::rest)::k,defers,.run,kind,none⟩ cs none (execOp (Frame.eval ⟨fn,tmps,.inRegion ops (i::rest)::k,defers,.run,kind,none⟩) op) w:=by
  intro cs
  simp only[G,stepG,stepG.exec,hw.1,if_true,stepG.oper,az]
 split at h<;>try (cases h;done)
 all_goals
  rename_i heq hv
  simp only[Option.some.injEq,Prod.mk.injEq] at h
  obtain⟨rfl,rfl,rfl,rfl⟩:=h
  have bX:=MO _ (w:=w) #[] hv hb hc
  simp only[RH.to,Array.empty_append] at bX
  simp only[OV.is]
  rw[gA]
  simp only[stepG.apply,bX,if_true,hk,Bool.false_eq_true,if_false,GStep.after,Array.append_empty,G,toArr]
 all_goals first|rfl| (simp[seen_none];done)
theorem amt(hm:fr.mode= .returning)(h:atw P ty c fr iu=some (o,ws,es,bs))(hb:∀b∈bs,b=W)(hc:(c=jq∧bs=[])∨mh ty W w c)(cs:List Frame)(main:Bool):o.is P main (G fr (iu++cs)) w (Nd W w ws) es.toArray cs:=by
 rcases fr with ⟨fn,tmps,todo,defers,mode,kind,ro⟩
 simp only at hm;subst hm
 unfold atw at h
 simp only at h
 split at h
 ·split at h<;>try (cases h;done)
  rename_i f hf
  split at h<;>try (cases h;done)
  rename_i v ws' dZ wU hv
  have bX:=fun hb hc=>MO _ (w:=w) #[] hv (W:=W) hb hc
  simp only[RH.to,Array.empty_append] at bX
  have key:(∀b∈wU,b=W)→((c=jq∧wU=[])∨mh ty W w c)→∀cs,stepG P main (G ⟨fn,tmps,todo,[],.returning,kind,ro⟩ cs) w=GStep.after (seen P fn dZ.toArray) (doReturn P main ⟨fn,tmps,todo,[],.returning,kind,ro⟩ cs none v (Nd W w ws')):=by
   intro hb hc cs
   simp only[G,stepG,unwind,hf,bX hb hc]
  split at h
  ·split at h<;>try (cases h;done)
   ·simp only[Option.some.injEq,Prod.mk.injEq] at h
    obtain⟨rfl,rfl,rfl,rfl⟩:=h
    simp only[OV.is]
    rw[key hb hc]
    simp only[List.cons_append,doReturn,GStep.after,Array.append_empty,toArr,G]
   split at h<;>try (cases h;done)
   rename_i q fZ hmq
   simp only[Option.some.injEq,Prod.mk.injEq] at h
   obtain⟨rfl,rfl,rfl,rfl⟩:=h
   simp only[OV.is]
   rw[key hb hc]
   simp only[List.cons_append,doReturn,hmq,GStep.after,Array.append_empty,toArr,G]
  split at h<;>try (cases h;done)
  ·simp only[Option.some.injEq,Prod.mk.injEq] at h
   obtain⟨rfl,rfl,rfl,rfl⟩:=h
   intro q Jj hq
   subst hq
   rw[key hb hc]
   simp only[List.nil_append,doReturn,GStep.after,Array.append_empty,toArr,G]
  simp only[Option.some.injEq,Prod.mk.injEq] at h
  obtain⟨rfl,rfl,rfl,rfl⟩:=h
  intro q Jj hq hmq
  subst hq
  rw[key hb hc]
  rcases hmq with hmq| ⟨ch,hmq⟩
  ·simp only[List.nil_append,doReturn,hmq,GStep.after,Array.append_empty,toArr,G]
  simp only[List.nil_append,doReturn,hmq,GStep.after,Array.append_empty,toArr,G]
 rename_i d ds
 cases hd:aEM d.target with
 |false=>rw[hd] at h;cases h
 |true=>
 rw[hd] at h;simp only[cond_true] at h
 rcases d with ⟨tg,args⟩
 cases tg with
 |fn f cap=>
  split at h<;>try (cases h;done)
  all_goals
   rename_i hv
   simp only[Option.some.injEq,Prod.mk.injEq] at h
   obtain⟨rfl,rfl,rfl,rfl⟩:=h
   have bX:=MO _ (w:=w) #[] hv hb hc
   simp only[RH.to,Array.empty_append] at bX
   simp only[OV.is]
   simp only[G,stepG,unwind,callDeferred,bX,GStep.after,toArr,Array.append_empty,Bool.false_and,Bool.false_eq_true,if_false,List.cons_append]
 |_=>cases hd
theorem rj(h:QQ P ty c fr iu=some (o,ws,es,bs))(hb:∀b∈bs,b=W)(hc:(c=jq∧bs=[])∨mh ty W w c)(cs:List Frame)(main:Bool):o.is P main (G fr (iu++cs)) w (Nd W w ws) es.toArray cs:=by
 unfold QQ at h
 split at h<;>try (cases h;done)
 ·rename_i hm
  split at h
  ·rename_i nO hfr
   simp only[Option.some.injEq,Prod.mk.injEq] at h
   obtain⟨rfl,rfl,rfl,rfl⟩:=h
   exact apz hm hfr w
  exact afF hm h hb hc cs main
 rename_i hm
 exact amt hm h hb hc cs main
end
def akp:Event→Option (Nat×Nat×List Nat)
 | ⟨.mark .disable,false,true⟩=>some (1,0,[])
 | ⟨.mark .enable,false,true⟩=>some (2,0,[])
 | ⟨.mark (.releaseMerge ⟨b,o,none⟩),false,true⟩=>some (3,o,[b])
 | ⟨.mark (.acquire ⟨b,o,none⟩),false,true⟩=>some (4,o,[b])
 | ⟨.mark (.read ⟨b,o,none⟩),false,true⟩=>some (5,o,[b])
 | ⟨.mark (.write ⟨b,o,none⟩),false,true⟩=>some (6,o,[b])
 | ⟨.cell ⟨b,o,none⟩,false,true⟩=>some (7,o,[b])
 | ⟨.cell ⟨b,o,none⟩,true,true⟩=>some (8,o,[b])
 |_=>none
def WG(W:Nat)(x:Nat×Nat):Event:=
 match x.1 with
 |1=>said .disable
 |2=>said .enable
 |3=>said (.releaseMerge ⟨W,x.2,none⟩)
 |4=>said (.acquire ⟨W,x.2,none⟩)
 |5=>said (.read ⟨W,x.2,none⟩)
 |6=>said (.write ⟨W,x.2,none⟩)
 |7=>⟨.cell ⟨W,x.2,none⟩,false,true⟩
 |_=>⟨.cell ⟨W,x.2,none⟩,true,true⟩
theorem ako{e:Event}{k o:Nat}{bs:List Nat}(h:akp e=some (k,o,bs))(hb:∀b∈bs,b=W):e=WG W (k,o):=by
 unfold akp at h
 split at h<;>try (cases h;done)
 all_goals
  simp only[Option.some.injEq,Prod.mk.injEq] at h
  obtain⟨rfl,rfl,rfl⟩:=h
 ·rfl
 ·rfl
 all_goals
  have:=hb _ (List.mem_singleton.2 rfl)
  subst this
  rfl
def Io:List Event→Option (List (Nat×Nat)×List Nat)
 | []=>some ([],[])
 |e::l=>match akp e,Io l with
  |some (k,o,b),some (r,bs)=>some ((k,o)::r,b++bs)
  |_,_=>none
theorem Mm:∀ {es:List Event} {ks:List (Nat×Nat)} {bs:List Nat},Io es=some (ks,bs)→(∀b∈bs,b=W)→es=ks.map (WG W)
 | [],ks,bs,h,hb=>by simp only[Io,Option.some.injEq,Prod.mk.injEq] at h;obtain⟨rfl,rfl⟩:=h;rfl
 |e::l,ks,bs,h,hb=>by
  simp only[Io] at h
  split at h<;>try (cases h;done)
  rename_i k o b r wU h1 h2
  simp only[Option.some.injEq,Prod.mk.injEq] at h
  obtain⟨rfl,rfl⟩:=h
  rw[List.map_cons,←ako h1 (fun x hx=>hb x (by simp[hx])),←Mm h2 (fun x hx=>hb x (by simp[hx]))]
abbrev Bl:=Option (List Nat)
def akQ:List Nat→Bl→Bl
 |a,some b=>some (a++b)
 |_,none=>none
def both:Bl→Bl→Bl
 |some a,some b=>some (a++b)
 |_,_=>none
def akX(f:α→Bl):List α→Bl
 | []=>some []
 |x::l=>both (f x) (akX f l)
theorem OM{a bs:List Nat}{x:Bl}(h:akQ a x=some bs)(hb:∀b∈bs,b=W):(∀b∈a,b=W)∧∃y,x=some y∧∀b∈y,b=W:=by
 cases x with
 |none=>cases h
 |some y=>
  simp only[akQ,Option.some.injEq] at h;subst h
  exact⟨fun b hm=>hb b (by simp[hm]),y,rfl,fun b hm=>hb b (by simp[hm])⟩
theorem BB{bs:List Nat}{x y:Bl}(h:both x y=some bs)(hb:∀b∈bs,b=W):(∃a,x=some a∧∀b∈a,b=W)∧∃a,y=some a∧∀b∈a,b=W:=by
 cases x with
 |none=>cases h
 |some a=>
  cases y with
  |none=>cases h
  |some b=>
   simp only[both,Option.some.injEq] at h;subst h
   exact⟨⟨a,rfl,fun b hm=>hb b (by simp[hm])⟩,b,rfl,fun b hm=>hb b (by simp[hm])⟩
theorem FD{f:α→Bl}:∀ {l:List α} {bs:List Nat},akX f l=some bs→(∀b∈bs,b=W)→∀x∈l,∃a,f x=some a∧∀b∈a,b=W
 | [],_,_,_,x,hx=>by cases hx
 |y::l,bs,h,hb,x,hx=>by
  obtain⟨h1,h2,h3,h4⟩:=BB h hb
  rcases List.mem_cons.1 hx with rfl|hx
  ·exact h1
  exact FD h3 h4 x hx
def D7(P:Program)(ty:TypeId):Nat→Frame→List Frame→(Frame→List Frame→Bl)→Bl
 |0,_,_,_=>none
 |n+1,fr,iu,k=>match QQ P ty jq fr iu with
  |some (.go nO fZ,[],[],bs)=>akQ bs (D7 P ty n nO fZ k)
  |_=>k fr iu
def as9(P:Program)(ty:TypeId)(c:Mz)(fr:Frame)(iu:List Frame):Option (Frame×List Frame×List (Nat×Value)×List (Nat×Nat)×List Nat×List Nat):=
 match QQ P ty c fr iu with
 |some (.go nO fZ,ws,es,bs)=>match Io es with
  |some (ks,b2)=>some (nO,fZ,ws,ks,bs,b2)
  |none=>none
 |_=>none
def i64(n:Int):Value:= .int .u64 n
def i32(n:Int):Value:= .int .u32 n
def WX:List (Nat×Nat)→List (Nat×Nat)→Bool
 | [],[]=>true
 | (a,b)::l,(c,d)::m=>Nat.beq a c&&(Nat.beq b d&&WX l m)
 |_,_=>false
theorem Z8:∀ {l m:List (Nat×Nat)},WX l m=true→l=m
 | [],[],_=>rfl
 | (a,b)::l,(c,d)::m,h=>by
  simp only[WX,Bool.and_eq_true] at h
  rw[Nat.eq_of_beq_eq_true h.1,Nat.eq_of_beq_eq_true h.2.1,Z8 h.2.2]
 | [],_::_,h=>by simp[WX] at h
 |_::_,[],h=>by simp[WX] at h
def acO:List (Nat×Value)→Option (Nat×IntKind×Int)→Bool
 | [],none=>true
 | [(o,.int k n)],some (o',k',n')=>Nat.beq o o'&&(decide (k=k')&&decide (n=n'))
 |_,_=>false
theorem acN{l:List (Nat×Value)}(h:acO l none=true):l=[]:=by
 unfold acO at h
 split at h
 ·rfl
 ·rename_i heq;cases heq
 cases h
theorem acM{l:List (Nat×Value)}{o:Nat}{k:IntKind}{n:Int}(h:acO l (some (o,k,n))=true):l=[(o,.int k n)]:=by
 unfold acO at h
 split at h
 ·rename_i heq;cases heq
 ·rename_i heq
  cases heq
  simp only[Bool.and_eq_true,decide_eq_true_eq] at h
  rw[Nat.eq_of_beq_eq_true h.1,h.2.1,h.2.2]
 cases h
def Ep(P:Program)(ty:TypeId)(c:Mz)(m:Bool)(wr:Option (Nat×IntKind×Int))(ks:List (Nat×Nat))(fr:Frame)(iu:List Frame)(k:Frame→List Frame→Bl):Bl:=
 match as9 P ty c fr iu with
 |some (nO,fZ,ws,ks',b1,b2)=>bif acO ws wr&&(WX ks' ks&&(!m||b1.isEmpty)) then akQ b1 (akQ b2 (k nO fZ)) else none
 |none=>none
section
variable {P:Program} {ty:TypeId} {W:Nat}
theorem amk{c:Mz}{fZ:List Frame}{ws:List (Nat×Value)}{ks:List (Nat×Nat)}{b1 b2:List Nat}(h:as9 P ty c fr iu=some (nO,fZ,ws,ks,b1,b2))(h1:∀b∈b1,b=W)(h2:∀b∈b2,b=W)
 {w:World}(hc:(c=jq∧b1=[])∨mh ty W w c)(cs:List Frame)(main:Bool):stepG P main (G fr (iu++cs)) w= .go (G nO (fZ++cs)) (Nd W w ws) (ks.map (WG W)).toArray:=by
 unfold as9 at h
 split at h<;>try (cases h;done)
 rename_i h0
 split at h<;>try (cases h;done)
 rename_i hk
 simp only[Option.some.injEq,Prod.mk.injEq] at h
 obtain⟨rfl,rfl,rfl,rfl,rfl,rfl⟩:=h
 have:=rj h0 h1 hc cs main
 simp only[OV.is] at this
 rw[this,Mm hk h2]
def wrote(W:Nat)(w:World):Option (Nat×IntKind×Int)→World
 |none=>w
 |some (o,k,n)=>w.setCell ⟨W,o,none⟩ (.int k n)
theorem gQ{c:Mz}{m:Bool}{x:Option (Nat×IntKind×Int)}{ks:List (Nat×Nat)}{k:Frame→List Frame→Bl}{bs:List Nat}(h:Ep P ty c m x ks fr iu k=some bs)(hb:∀b∈bs,b=W):
 ∃nO fZ wU,k nO fZ=some wU∧(∀b∈wU,b=W)∧∀cs main w,((c=jq∧m=true)∨mh ty W w c)→stepG P main (G fr (iu++cs)) w= .go (G nO (fZ++cs)) (wrote W w x) (ks.map (WG W)).toArray:=by
 unfold Ep at h
 split at h<;>try (cases h;done)
 rename_i nO fZ ws ks' b1 b2 hv
 cases hq:(acO ws x&&(WX ks' ks&&(!m||b1.isEmpty))) with
 |false=>rw[hq] at h;cases h
 |true=>
 rw[hq] at h;simp only[cond_true] at h
 simp only[Bool.and_eq_true] at hq
 obtain⟨q1,q2,q3⟩:=hq
 obtain⟨h1,y,hy,Pb⟩:=OM h hb
 obtain⟨h2,z,hz,EI⟩:=OM hy Pb
 refine⟨nO,fZ,z,hz,EI,fun cs main w hc=>?_⟩
 have:=amk hv h1 h2 (w:=w) (by
  rcases hc with ⟨hc,hm⟩|hc
  ·subst hm
   simp at q3
   exact .inl ⟨hc,q3⟩
  exact .inr hc) cs main
 rw[this,Z8 q2]
 cases x with
 |none=>rw[acN q1];rfl
 |some x=>
  obtain⟨o,kd,n⟩:=x
  rw[acM q1];rfl
theorem Wl{k:Frame→List Frame→Bl}:∀ {n:Nat} {fr:Frame} {iu:List Frame} {bs:List Nat},D7 P ty n fr iu k=some bs→(∀b∈bs,b=W)→
 ∀(T:Frame→List Frame→Prop),(∀nO fZ wU,k nO fZ=some wU→(∀b∈wU,b=W)→T nO fZ)→
 (∀fr iu nO fZ,(∀cs main w,mh ty W w jq→stepG P main (G fr (iu++cs)) w= .go (G nO (fZ++cs)) w #[])→T nO fZ→T fr iu)→T fr iu
 |0,_,_,_,h,_,_,_,_=>by cases h
 |n+1,fr,iu,bs,h,hb,T,hk,hs=>by
  simp only[D7] at h
  split at h
  ·rename_i nO fZ b1 h0
   obtain⟨h1,y,hy,Pb⟩:=OM h hb
   refine hs fr iu nO fZ (fun cs main w hc=>?_) (Wl hy Pb T hk hs)
   have:=rj h0 h1 (.inr hc) cs main
   simp only[OV.is] at this
   rw[this];rfl
  exact hk _ _ _ h hb
end
section
variable {ι:Type} (E:dO ι)
theorem G8{w:World}(h:E.live w):mh E.ty E.Wg w jq:=by
 obtain⟨st,sm,h⟩:=h
 exact⟨_,_,h,by simp,by simp⟩
theorem oQ{w:World}(h:WgAt E.ty E.Wg w st sm):mh E.ty E.Wg w (some (i64 st),some (i32 sm)):=⟨_,_,h,by simp[i64],by simp[i32]⟩
theorem atS{w:World}(h:WgAt E.ty E.Wg w st sm):mh E.ty E.Wg w (none,some (i32 sm)):=⟨_,_,h,by simp,by simp[i32]⟩
variable {E}
theorem fu{Stop:Goroutine→Prop}{k:Frame→List Frame→Bl}{bs:List Nat}(h:D7 E.P E.ty n fr iu k=some bs)(hb:∀b∈bs,b=E.Wg)
 (hk:∀nO fZ wU,k nO fZ=some wU→(∀b∈wU,b=E.Wg)→Stop (G nO (fZ++cs))):E.pure main Stop (G fr (iu++cs)):=by
 refine Wl h hb (fun fr iu=>E.pure main Stop (G fr (iu++cs))) (fun nO fZ wU h1 h2=>⟨0,hk _ _ _ h1 h2⟩) fun fr iu nO fZ h1 ⟨m,hm⟩=>⟨m+1,rfl,_,fun w hw=>h1 cs main w (G8 E hw),hm⟩
theorem Oa{L:Nat→Option Obj}{pend d0:Nat}{os:List ι}{s:St}{k:Frame→List Frame→Bl}{bs:List Nat}(h:D7 E.P E.ty n fr iu k=some bs)(hb:∀b∈bs,b=E.Wg)
 (hk:∀nO fZ wU,k nO fZ=some wU→(∀b∈wU,b=E.Wg)→TC E L Q pend false os d0 (G nO (fZ++cs)) s):TC E L Q pend false os d0 (G fr (iu++cs)) s:=
 Wl h hb (fun fr iu=>TC E L Q pend false os d0 (G fr (iu++cs)) s) hk fun fr iu nO fZ h1 hT=>Xy rfl (fun w hw=>h1 cs true w (G8 E hw)) hT
def goR(P:Program)(ty:TypeId):Nat→Frame→List Frame→Bl
 |0,_,_=>none
 |n+1,fr,iu=>match QQ P ty jq fr iu with
  |some (.go nO fZ,[],[],[])=>goR P ty n nO fZ
  |some (.ret (.tuple ⟨[]⟩),[],[],[])=>some []
  |_=>none
theorem Wj{c:Frame}:∀ {n:Nat} {fr:Frame} {iu:List Frame} {bs:List Nat},goR P ty n fr iu=some bs→
 ∀(main:Bool) (T:Goroutine→Prop),T (G (c.finish (.tuple #[])) cs)→(∀g g',g.status= .running→g'.status= .running→(∀w,stepG P main g w= .go g' w #[])→T g'→T g)→T (G fr (iu++c::cs))
 |0,_,_,_,h,_,_,_,_=>by cases h
 |n+1,fr,iu,bs,h,main,T,hT,hs=>by
  simp only[goR] at h
  split at h
  ·rename_i nO fZ h0
   refine hs _ _ rfl rfl (fun w=>?_) (Wj h main T hT hs)
   have:=rj (W:=0) (w:=w) h0 (by simp) (.inl ⟨rfl,rfl⟩) (c::cs) main
   simp only[OV.is] at this
   rw[this];rfl
  ·rename_i h0
   refine hs _ _ rfl rfl (fun w=>?_) hT
   have:=rj (W:=0) (w:=w) h0 (by simp) (.inl ⟨rfl,rfl⟩) (c::cs) main
   simp only[OV.is] at this
   have h2:=this c cs rfl
   rw[h2];rfl
  cases h
def Q8:List Event→Bool
 | []=>true
 |e::l=>e.mute&&Q8 l
def goQ(P:Program)(ty:TypeId):Nat→Nat→Frame→List Frame→Bl
 |0,_,_,_=>none
 |n+1,d,fr,iu=>match QQ P ty jq fr iu with
  |some (.go nO fZ,[],es,[])=>bif Q8 es then goQ P ty n (deafBehind d es.toArray) nO fZ else none
  |some (.aug,[],[],[])=>bif Nat.beq d 0 then some [] else none
  |_=>none
theorem Q7:∀ {es:List Event},Q8 es=true→∀e∈es,e.mute=true
 | [],_,e,he=>by cases he
 |x::l,h,e,he=>by
  simp only[Q8,Bool.and_eq_true] at h
  rcases List.mem_cons.1 he with rfl|he
  ·exact h.1
  exact Q7 h.2 e he
theorem Wk{c:Frame}{q:Nat}(hc:c.mode= .returning∨∃ch,c.mode= .panicking [⟨ch,false,true⟩])(hq:QuitsD P q 0 (G c cs)):∀ {n d:Nat} {fr:Frame} {iu:List Frame} {bs:List Nat},goQ P ty n d fr iu=some bs→
 ∃q,QuitsD P q d (G fr (iu++c::cs))
 |0,_,_,_,_,h=>by cases h
 |n+1,d,fr,iu,bs,h=>by
  simp only[goQ] at h
  split at h
  ·rename_i nO fZ es h0
   cases hm:Q8 es with
   |false=>rw[hm] at h;cases h
   |true=>
   rw[hm] at h;simp only[cond_true] at h
   obtain⟨q',Fs⟩:=Wk hc hq h
   refine⟨q'+1,.inr ⟨rfl,_,es.toArray,fun e he=>Q7 hm e (by simpa using he),fun w=>?_,Fs⟩⟩
   have:=rj (W:=0) (w:=w) h0 (by simp) (.inl ⟨rfl,rfl⟩) (c::cs) false
   simp only[OV.is] at this
   rw[this];rfl
  ·rename_i h0
   cases hd:Nat.beq d 0 with
   |false=>rw[hd] at h;cases h
   |true=>
   have:d=0:=Nat.eq_of_beq_eq_true hd
   subst this
   refine⟨q+1,.ctl rfl (fun w=>?_) hq⟩
   have:=rj (W:=0) (w:=w) h0 (by simp) (.inl ⟨rfl,rfl⟩) (c::cs) false
   simp only[OV.is] at this
   have h2:=this c cs rfl hc
   rw[h2];rfl
  cases h
end
section
variable (P:Program) (ty:TypeId)
abbrev ZX(a b:Int):Mz:=(some (i64 a),some (i32 b))
abbrev aCf:List (Nat×Nat):=[(1,0),(7,1),(8,1),(2,0)]
def akB(f:Frame)(s:List Frame):Bl:=bif mayWake P (G f []) then Ep P ty (ZX 0 0) false (some (1,.u32,1)) aCf f s (goQ P ty 300 1) else none
def asx(f:Frame)(s:List Frame):Bl:=Ep P ty (ZX 1 0) false (some (0,.u64,0)) [(8,0)] f s fun f s=>D7 P ty 300 f s (akB P ty)
def asy(f:Frame)(s:List Frame):Bl:=Ep P ty (ZX 1 0) false none [(7,0)] f s fun f s=>D7 P ty 300 f s (asx P ty)
def WO(f:Frame)(s:List Frame)(v wt:Nat):Bl:=
 Ep P ty (ZX (((v+1:Nat):Int)*KK+(wt:Int)) 0) false (some (0,.u64,(v:Int)*KK+(wt:Int))) [(7,0),(8,0)] f s fun f s=>bif Nat.beq v 0&&Nat.beq wt 1 then D7 P ty 300 f s (asy P ty) else goQ P ty 300 1 f s
def asz(mx:Nat)(f:Frame)(s:List Frame):Bl:=akX (fun v=>both (WO P ty f s v 0) (WO P ty f s v 1)) (List.range mx)
def asw(mx:Nat)(f:Frame)(s:List Frame):Bl:=Ep P ty jq true none [(1,0)] f s fun f s=>D7 P ty 300 f s (asz P ty mx)
def asv(mx:Nat)(f:Frame)(s:List Frame):Bl:=Ep P ty jq true none [(3,0)] f s fun f s=>D7 P ty 300 f s (asw P ty mx)
def xM(mx:Nat)(f:Frame):Bl:=D7 P ty 300 f [] (asv P ty mx)
def asA(f:Frame)(s:List Frame):Bl:=Ep P ty jq true none [(4,0)] f s (goR P ty 300)
def ZW(f:Frame)(s:List Frame):Bl:=Ep P ty jq true none [(2,0)] f s fun f s=>D7 P ty 300 f s (asA P ty)
def ass(f:Frame)(s:List Frame):Bl:=Ep P ty (ZX 0 0) false none [(7,0)] f s fun f s=>D7 P ty 300 f s (ZW P ty)
def aIE(c:Mz)(f:Frame)(s:List Frame):Bl:=match QQ P ty c f s with
 |some (.block,[],[],bs)=>some bs
 |_=>none
def ast(f:Frame)(s:List Frame):Bl:=both (aIE P ty (none,some (i32 0)) f s) (Ep P ty (ZX 0 1) false (some (1,.u32,0)) aCf f s fun f s=>D7 P ty 300 f s (ass P ty))
def asr(f:Frame)(s:List Frame):Bl:=Ep P ty jq true none [(6,1)] f s fun f s=>D7 P ty 300 f s (ast P ty)
def asu(anz:Frame→List Frame→Bl)(vs:Nat)(f:Frame)(s:List Frame):Bl:=
 both (Ep P ty (ZX ((vs:Int)*KK) 0) false (some (0,.u64,(vs:Int)*KK+1)) [(7,0),(8,0)] f s fun f s=>D7 P ty 300 f s (asr P ty))
  (akX (fun v:Nat=>Ep P ty (ZX ((v:Int)*KK) 0) false none [(7,0)] f s fun f s=>D7 P ty 300 f s anz) (List.range vs))
def S9:Nat→Frame→List Frame→Bl
 |0,f,s=>Ep P ty (ZX 0 0) false none [(7,0)] f s fun f s=>D7 P ty 300 f s (ZW P ty)
 |b+1,f,s=>both (Ep P ty (ZX 0 0) false none [(7,0)] f s fun f s=>D7 P ty 300 f s (ZW P ty))
  (akX (fun v:Nat=>Ep P ty (ZX (((v+1:Nat):Int)*KK) 0) false none [(7,0)] f s fun f s=>D7 P ty 300 f s (asu P ty (S9 b) (v+1))) (List.range (b+1)))
def Bx(mx:Nat)(f:Frame):Bl:=D7 P ty 300 f [] fun f s=>Ep P ty jq true none [(1,0)] f s fun f s=>D7 P ty 300 f s (S9 P ty mx)
def Iv(v:Nat)(f:Frame):Bl:=
 D7 P ty 300 f [] fun f s=>Ep P ty jq true none [(1,0)] f s fun f s=>D7 P ty 300 f s fun f s=>
  Ep P ty (ZX ((v:Int)*KK) 0) false (some (0,.u64,((v+1:Nat):Int)*KK)) [(7,0),(8,0)] f s fun f s=>D7 P ty 300 f s fun f s=>
   bif Nat.beq v 0 then Ep P ty jq false none [(5,1)] f s fun f s=>D7 P ty 300 f s fun f s=>Ep P ty jq true none [(2,0)] f s (goR P ty 300)
   else Ep P ty jq true none [(2,0)] f s (goR P ty 300)
end
section
variable {ι:Type} {E:dO ι}
section leave
variable {c:Frame} {cs:List Frame} (hc:c.mode= .returning∨∃ch,c.mode= .panicking [⟨ch,false,true⟩]) {q0:Nat} (hq:QuitsD E.P q0 0 (G c cs))
include hc hq
theorem akA{bs:List Nat}(h:akB E.P E.ty f s=some bs)(hb:∀b∈bs,b=E.Wg):E.D4 (G f (s++c::cs)):=by
 unfold akB at h
 cases hm:mayWake E.P (G f []) with
 |false=>rw[hm] at h;cases h
 |true=>
 rw[hm] at h;simp only[cond_true] at h
 obtain⟨f',s',wU,h1,h2,h3⟩:=gQ h hb
 exact⟨rfl,hm,_,fun w hw=>h3 _ _ w (.inr (oQ E hw)),Wk hc hq h1⟩
theorem akC{bs:List Nat}(h:asx E.P E.ty f s=some bs)(hb:∀b∈bs,b=E.Wg):E.D3 (G f (s++c::cs)):=by
 obtain⟨f',s',wU,h1,h2,h3⟩:=gQ h hb
 exact⟨rfl,_,fun w hw=>h3 _ _ w (.inr (oQ E hw)),fu h1 h2 fun _ _ _ k1 k2=>akA hc hq k1 k2⟩
theorem akD{bs:List Nat}(h:asy E.P E.ty f s=some bs)(hb:∀b∈bs,b=E.Wg):E.D2 (G f (s++c::cs)):=by
 obtain⟨f',s',wU,h1,h2,h3⟩:=gQ h hb
 exact⟨rfl,_,fun w hw=>h3 _ _ w (.inr (oQ E hw)),fu h1 h2 fun _ _ _ k1 k2=>akC hc hq k1 k2⟩
theorem akE{bs:List Nat}(h:asz E.P E.ty E.max f s=some bs)(hb:∀b∈bs,b=E.Wg):E.D1 (G f (s++c::cs)):=by
 refine⟨rfl,fun v wt hwt hv=>?_⟩
 obtain⟨a,h1,h2⟩:=FD h hb v (List.mem_range.2 hv)
 have key:∃a,WO E.P E.ty f s v wt=some a∧∀b∈a,b=E.Wg:=by
  obtain⟨k1,k2⟩:=BB h1 h2
  match wt,hwt with
  |0,_=>exact k1
  |1,_=>exact k2
 obtain⟨a',k1,k2⟩:=key
 obtain⟨f',s',wU,j1,j2,j3⟩:=gQ k1 k2
 refine⟨_,fun w hw=>j3 _ _ w (.inr (oQ E hw)),fun hh=>?_,fun hh=>?_⟩
 ·obtain⟨rfl,rfl⟩:=hh
  exact fu j1 j2 fun _ _ _ k1 k2=>akD hc hq k1 k2
 have:(Nat.beq v 0&&Nat.beq wt 1)=false:=by
  cases hx:(Nat.beq v 0&&Nat.beq wt 1) with
  |false=>rfl
  |true=>
   simp only[Bool.and_eq_true] at hx
   exact absurd ⟨Nat.eq_of_beq_eq_true hx.1,Nat.eq_of_beq_eq_true hx.2⟩ hh
 rw[this] at j1;simp only[cond_false] at j1
 exact Wk hc hq j1
theorem akz{bs:List Nat}(h:asw E.P E.ty E.max f s=some bs)(hb:∀b∈bs,b=E.Wg):E.K1 (G f (s++c::cs)):=by
 obtain⟨f',s',wU,h1,h2,h3⟩:=gQ h hb
 exact⟨rfl,_,fun w=>h3 _ _ w (.inl ⟨rfl,rfl⟩),fu h1 h2 fun _ _ _ k1 k2=>akE hc hq k1 k2⟩
theorem aky{bs:List Nat}(h:asv E.P E.ty E.max f s=some bs)(hb:∀b∈bs,b=E.Wg):E.R0 (G f (s++c::cs)):=by
 obtain⟨f',s',wU,h1,h2,h3⟩:=gQ h hb
 exact⟨rfl,_,fun w=>h3 _ _ w (.inl ⟨rfl,rfl⟩),fu h1 h2 fun _ _ _ k1 k2=>akz hc hq k1 k2⟩
theorem Iu{bs:List Nat}(h:xM E.P E.ty E.max f=some bs)(hb:∀b∈bs,b=E.Wg):E.pure false E.R0 (G f (c::cs)):=
 fu (iu:=[]) h hb fun _ _ _ k1 k2=>aky hc hq k1 k2
end leave
section close
variable {c:Frame} {cs:List Frame} {st:St} (hT:eJ E.P false E.J6 (G (c.finish (.tuple #[])) cs) st)
include hT
theorem akF{bs:List Nat}(h:asA E.P E.ty f s=some bs)(hb:∀b∈bs,b=E.Wg):E.Aq st (G f (s++c::cs)):=by
 obtain⟨f',s',wU,h1,h2,h3⟩:=gQ h hb
 have key:=Wj (c:=c) (cs:=cs) h1 false (fun g=>eJ E.P false E.J6 g st) hT fun g g' hg hg' bW hT'=>(dQ _ _ _).go hg hg' bW hT'
 obtain⟨tr,iq,hle,ht⟩:=key
 exact⟨rfl,_,fun w=>h3 _ _ w (.inl ⟨rfl,rfl⟩),tr,iq,hle,ht⟩
theorem It{bs:List Nat}(h:ZW E.P E.ty f s=some bs)(hb:∀b∈bs,b=E.Wg):E.Ke st (G f (s++c::cs)):=by
 obtain⟨f',s',wU,h1,h2,h3⟩:=gQ h hb
 exact⟨rfl,_,fun w=>h3 _ _ w (.inl ⟨rfl,rfl⟩),fu h1 h2 fun _ _ _ k1 k2=>akF hT k1 k2⟩
theorem akv{bs:List Nat}(h:ass E.P E.ty f s=some bs)(hb:∀b∈bs,b=E.Wg):E.W4 st (G f (s++c::cs)):=by
 obtain⟨f',s',wU,h1,h2,h3⟩:=gQ h hb
 exact⟨rfl,_,fun w hw=>h3 _ _ w (.inr (oQ E hw)),fu h1 h2 fun _ _ _ k1 k2=>It hT k1 k2⟩
theorem akw{bs:List Nat}(h:ast E.P E.ty f s=some bs)(hb:∀b∈bs,b=E.Wg):E.W3 st (G f (s++c::cs)):=by
 obtain⟨⟨b1,k1,k2⟩,b2,k3,k4⟩:=BB h hb
 obtain⟨f',s',wU,h1,h2,h3⟩:=gQ k3 k4
 refine⟨rfl,rfl,fun w n hw=>?_,_,fun w hw=>h3 _ _ w (.inr (oQ E hw)),fu h1 h2 fun _ _ _ k1 k2=>akv hT k1 k2⟩
 unfold aIE at k1
 split at k1<;>try (cases k1;done)
 rename_i h0
 simp only[Option.some.injEq] at k1;subst k1
 have:=rj h0 k2 (w:=w) (.inr (atS E hw)) (c::cs) false
 simp only[OV.is] at this
 rw[this];rfl
theorem aku{bs:List Nat}(h:asr E.P E.ty f s=some bs)(hb:∀b∈bs,b=E.Wg):E.Wr st (G f (s++c::cs)):=by
 obtain⟨f',s',wU,h1,h2,h3⟩:=gQ h hb
 exact⟨rfl,_,fun w=>h3 _ _ w (.inl ⟨rfl,rfl⟩),fu h1 h2 fun _ _ _ k1 k2=>akw hT k1 k2⟩
theorem akx{anz:Frame→List Frame→Bl}{ak5:Goroutine→Prop}(hm:∀f s bs,anz f s=some bs→(∀b∈bs,b=E.Wg)→ak5 (G f (s++c::cs))){vs:Nat}{bs:List Nat}(h:asu E.P E.ty anz vs f s=some bs)(hb:∀b∈bs,b=E.Wg):
 E.W2 (E.pure false ak5) st vs (G f (s++c::cs)):=by
 obtain⟨⟨b1,k1,k2⟩,b2,k3,k4⟩:=BB h hb
 obtain⟨f',s',wU,h1,h2,h3⟩:=gQ k1 k2
 refine⟨rfl,⟨_,fun w hw=>h3 _ _ w (.inr (oQ E hw)),fu h1 h2 fun _ _ _ k1 k2=>aku hT k1 k2⟩,fun v hv=>?_⟩
 obtain⟨a,j1,j2⟩:=FD k3 k4 v (List.mem_range.2 hv)
 obtain⟨f2,s2,bs2,i1,i2,i3⟩:=gQ j1 j2
 exact⟨_,fun w hw=>i3 _ _ w (.inr (oQ E hw)),fu i1 i2 fun _ _ _ k1 k2=>hm _ _ _ k1 k2⟩
theorem S8:∀ {b:Nat} {f:Frame} {s:List Frame} {bs:List Nat},S9 E.P E.ty b f s=some bs→(∀b∈bs,b=E.Wg)→E.W1 st b (G f (s++c::cs))
 |0,f,s,bs,h,hb=>by
  simp only[S9] at h
  obtain⟨f',s',wU,h1,h2,h3⟩:=gQ h hb
  exact⟨rfl,_,fun w hw=>h3 _ _ w (.inr (oQ E hw)),fu h1 h2 fun _ _ _ k1 k2=>It hT k1 k2⟩
 |b+1,f,s,bs,h,hb=>by
  simp only[S9] at h
  obtain⟨⟨b1,k1,k2⟩,b2,k3,k4⟩:=BB h hb
  obtain⟨f',s',wU,h1,h2,h3⟩:=gQ k1 k2
  refine⟨rfl,⟨_,fun w hw=>h3 _ _ w (.inr (oQ E hw)),fu h1 h2 fun _ _ _ k1 k2=>It hT k1 k2⟩,fun v hv1 hv2=>?_⟩
  obtain⟨u,rfl⟩:∃u,v=u+1:=⟨v-1,by omega⟩
  obtain⟨a,j1,j2⟩:=FD k3 k4 u (List.mem_range.2 (by omega))
  obtain⟨f2,s2,bs2,i1,i2,i3⟩:=gQ j1 j2
  exact⟨_,fun w hw=>i3 _ _ w (.inr (oQ E hw)),fu i1 i2 fun _ _ _ k1 k2=>akx hT (ak5:=E.W1 st b) (fun _ _ _ m1 m2=>S8 m1 m2) k1 k2⟩
theorem Is{bs:List Nat}(h:Bx E.P E.ty E.max f=some bs)(hb:∀b∈bs,b=E.Wg):E.closes st (G f (c::cs)):=
 fu (iu:=[]) h hb fun _ _ _ k1 k2=>by
  obtain⟨f',s',wU,h1,h2,h3⟩:=gQ k1 k2
  exact⟨rfl,_,fun w=>h3 _ _ w (.inl ⟨rfl,rfl⟩),fu h1 h2 fun _ _ _ k1 k2=>S8 hT k1 k2⟩
end close
theorem Mq{L:Nat→Option Obj}{os:List ι}{s:St}{c:Frame}{bs:List Nat}(h:Iv E.P E.ty os.length f=some bs)(hb:∀b∈bs,b=E.Wg)(JN:os.length <E.max)
 (hT:TC E L Q 1 false os 0 (G (c.finish (.tuple #[])) cs) s):TC E L Q 0 false os 0 (G f (c::cs)) s:=by
 have qu:∀ {f:Frame} {iu:List Frame} {bs:List Nat},Ep E.P E.ty jq true none [(2,0)] f iu (goR E.P E.ty 300)=some bs→(∀b∈bs,b=E.Wg)→TC E L Q 1 false os 1 (G f (iu++c::cs)) s:=by
  intro f iu bs h hb
  obtain⟨f',s',wU,h1,h2,h3⟩:=gQ h hb
  refine Fe (lZ:=1) (d':=0) rfl rfl (fun w st sm hw hz _=>⟨w,h3 _ _ w (.inl ⟨rfl,rfl⟩),eI.refl w,by obtain⟨rfl,rfl⟩:=hz rfl;exact hw⟩) (by intro e he;simp[WG] at he;subst he;exact .inr (.inl rfl)) rfl id ?_
  exact Wj (c:=c) (cs:=cs) h1 true (fun g=>TC E L Q 1 false os 0 g s) hT fun g g' hg hg' bW hT'=>Xy hg (fun w _=>bW w) hT'
 refine Oa (iu:=[]) h hb fun f1 s1 b1 k1 k2=>?_
 obtain⟨f',s',wU,h1,h2,h3⟩:=gQ k1 k2
 refine Fe (lZ:=0) (d':=1) rfl rfl (fun w st sm hw hz _=>⟨w,h3 _ _ w (.inl ⟨rfl,rfl⟩),eI.refl w,by obtain⟨rfl,rfl⟩:=hz rfl;exact hw⟩) (by intro e he;simp[WG] at he;subst he;exact .inl rfl) rfl id ?_
 refine Oa h1 h2 fun f2 s2 b2 k1 k2=>?_
 obtain⟨f',s',wU,h1,h2,h3⟩:=gQ k1 k2
 refine Fe (lZ:=1) (d':=1) rfl rfl (fun w st sm hw hz _=>⟨_,h3 _ _ w (.inr ?_),eI.set w 0 _,?_⟩) (by
  intro e he;simp[WG] at he
  rcases he with rfl|rfl<;>exact n5 0 _) rfl (fun _=>JN) ?_
 ·obtain⟨rfl,rfl⟩:=hz rfl
  exact oQ E hw
 ·obtain⟨rfl,rfl⟩:=hz rfl
  exact Go.ConcR.WgAt.setSt hw _
 refine Oa h1 h2 fun f3 s3 b3 k1 k2=>?_
 cases hz:Nat.beq os.length 0 with
 |false=>
  rw[hz] at k1;simp only[cond_false] at k1
  exact qu k1 k2
 |true=>
  rw[hz] at k1;simp only[cond_true] at k1
  obtain⟨f',s',wU,h1,h2,h3⟩:=gQ k1 k2
  refine amw rfl (fun w hw=>h3 _ _ w (.inr (G8 E hw)))<|Oa h1 h2 fun f4 s4 b4 k1 k2=>qu k1 k2
end
def CA(P:Program):Class:=fun main T=>Closed P main T
def aeL:Code→Nat
 | .seq a b=>aeL a+aeL b+1
 |_=>0
def gE(l:List Code):List Code:=l.flatMap iS
section
variable {P:Program} {main:Bool} {T:Goroutine→St→Prop} {b:Frame} {k:List Item} {cs:List Frame} {a:Act} {s:St} {n LF:Nat} {D:List Deferred} {call:cq} {ops:Array Oper}
 {ρ:aU} {ce e:Env} {m:Mem} {F:Nat×Obj→Prop} {R:Nat→Option Obj}
abbrev On(T:Goroutine→St→Prop)(b:Frame)(a:Act)(l:List Code)(k:List Item)(cs:List Frame)(s:St):Prop:=T (G (aL b a (l.map .code++k)) cs) s
theorem nP(hT:Closed P main T){c0:Code}:∀ {l:List Code},gE l=c0::rest→(∀l',gE l'=rest→T (G (aL b a (.code c0::(l'.map .code++k))) cs) s)→On T b a l k cs s:=by
 intro l
 generalize hn:(l.map aeL).sum=q
 induction q using Nat.strongRecOn generalizing l with
 |_ q ih=>
  intro hl h
  cases l with
  |nil=>cases hl
  |cons c l=>
   cases hc:c with
   |seq x y=>
    subst hc
    refine hT.go rfl rfl (g':=G (aL b a ((x::y::l).map .code++k)) cs) (fun w=>by simp[G,stepG,stepG.exec,aL])<|ih ((x::y::l).map aeL).sum ?_ rfl ?_ h
    ·rw[←hn];simp[aeL];omega
    rw[←hl];simp[gE,iS]
   |_=>
    subst hc
    simp only[gE,List.flatMap_cons,iS,List.singleton_append,List.cons.injEq] at hl
    obtain⟨rfl,hl⟩:=hl
    exact h l hl
theorem dH(hT:Closed P main T)(hl:gE l= .region id ops false::rest)(h:∀l',gE l'=rest→T (G (aL b a (.inRegion ops (List.range ops.size)::(l'.map .code++k))) cs) s):On T b a l k cs s:=
 nP hT hl fun l' zb=>hT.go rfl rfl (g':=G (aL b a (.inRegion ops (List.range ops.size)::(l'.map .code++k))) cs) (fun w=>by simp[G,stepG,stepG.exec,aL]) (h l' zb)
theorem AV(hT:Closed P main T){c:Operand}{x y:Code}{t:Bool}(hl:gE l= .cond c x y::rest)(hc:a.eval c= .bool t)(h:∀l',gE l'=rest→T (G (aL b a (.code (if t then x else y)::(l'.map .code++k))) cs) s):On T b a l k cs s:=
 nP hT hl fun l' zb=>hT.go rfl rfl (g':=G (aL b a (.code (if t then x else y)::(l'.map .code++k))) cs) (fun w=>by
  have he:=kQ b a (.code (.cond c x y)::(l'.map .code++k))
  simp only[aL] at he
  simp only[G,stepG,stepG.exec,aL,he,hc]) (h l' zb)
theorem wh(hT:Closed P main T){c:Code}(hl:gE l= .block id c::rest)(h:∀l',gE l'=rest→On T b a [c] (.inBlock id::(l'.map .code++k)) cs s):On T b a l k cs s:=
 nP hT hl fun l' zb=>hT.go rfl rfl (g':=G (aL b a (.code c:: .inBlock id::(l'.map .code++k))) cs) (fun w=>by simp[G,stepG,stepG.exec,aL]) (show T (G (aL b a (.code c:: .inBlock id::(l'.map .code++k))) cs) s from h l' zb)
theorem Dh(hT:Closed P main T)(h:T (G (aL b a k) cs) s):T (G (aL b a (.inBlock id::k)) cs) s:=
 hT.go rfl rfl (g':=G (aL b a k) cs) (fun w=>by simp[G,stepG,stepG.exec,aL]) h
theorem Nn(hT:Closed P main T){c:Code}(hl:gE l= .loop c::rest)(h:∀l',gE l'=rest→On T b a [c] (.inLoop c::(l'.map .code++k)) cs s):On T b a l k cs s:=
 nP hT hl fun l' zb=>hT.go rfl rfl (g':=G (aL b a (.code c:: .inLoop c::(l'.map .code++k))) cs) (fun w=>by simp[G,stepG,stepG.exec,aL]) (show T (G (aL b a (.code c:: .inLoop c::(l'.map .code++k))) cs) s from h l' zb)
theorem Aa(hT:Closed P main T){c:Code}(h:On T b a [c] (.inLoop c::k) cs s):T (G (aL b a (.inLoop c::k)) cs) s:=
 hT.go rfl rfl (g':=G (aL b a (.code c:: .inLoop c::k)) cs) (fun w=>by simp[G,stepG,stepG.exec,aL]) h
theorem Oq(hT:Closed P main T)(h:T (G (aL b a k) cs) s):T (G (aL b a (.code .skip::k)) cs) s:=
 hT.go rfl rfl (g':=G (aL b a k) cs) (fun w=>by simp[G,stepG,stepG.exec,aL]) h
theorem Ot(hT:Closed P main T){k':List Item}(hk:exitTo id k=some k')(h:T (G (aL b a k') cs) s):T (G (aL b a (.code (.exit id)::k)) cs) s:=
 hT.go rfl rfl (g':=G (aL b a k') cs) (fun w=>by simp[G,stepG,stepG.exec,aL,hk]) h
theorem gZ(hT:Closed P main T)(h:T (G (aL b a k) cs) s):T (G (aL b a (.inRegion ops []::k)) cs) s:=
 hT.go rfl rfl (g':=G (aL b a k) cs) (fun w=>by simp[G,stepG,stepG.exec,aL]) h
theorem qF(id:Nat):∀(l:List Code) (k:List Item),exitTo id (l.map .code++k)=exitTo id k
 | [],k=>rfl
 |c::l,k=>by
  rw[List.map_cons,List.cons_append]
  exact qF id l k
theorem sZ(hT:Closed P main T){rest:List Nat}{o:Oper}(ho:ops[i]?=some o) (hw:Region.wanted o (yielded ops a.tmps)=true) (hk:b.kind≠ .early) (hb:b.roundOf=none)
 (h:bO P (execOp a.eval o) s (fun nx s'=>∃v,nx= .value v∧T (G (aL b (a.put o.dst v) (.inRegion ops rest::k)) cs) s') (fun _ _=>False)):T (G (aL b a (.inRegion ops (i::rest)::k)) cs) s:=by
 have jJ:(b.kind==CallKind.early)=false:=by simpa using hk
 have gA:∀w,stepG P main (G (aL b a (.inRegion ops (i::rest)::k)) cs) w=stepG.apply P true (aL b a (.inRegion ops (i::rest)::k)) cs none (execOp a.eval o) w:=by
  intro w
  have he:=kQ b a (.inRegion ops (i::rest)::k)
  simp only[aL] at he
  simp only[G,stepG,stepG.exec,aL,ho,Option.map_some,Option.getD_some,hw,if_true,stepG.oper,Frame.oper?,he]
  rw[hb]
 refine hT.step _ _ rfl fun w pJ=>?_
 obtain⟨r,es,hr,hl⟩:=gG _ _ _ _ w #[] h pJ
 rw[Array.empty_append] at hr
 have mI:=gA w
 simp only[stepG.apply,if_true,hr] at mI
 simp only[aL,jJ,Bool.false_eq_true,if_false] at mI
 cases r with
 |ok nx w'=>
  obtain⟨s',ht,v,rfl,hv⟩:=hl
  simp only[GStep.after,Array.append_empty] at mI
  have mr:=fH b a ops i rest k v
  rw[ho] at mr
  simp only[Option.bind_some] at mr
  rw[←mr] at hv
  exact⟨_,_,_,s',mI,rfl,ht.sub (iC P b.fn es),hv⟩
 |halt hh w'=>
  obtain⟨s',ht,hu⟩:=hl
  exact hu.elim
theorem dA(o:Oper)(f:Nat→Option Bool)(h:o.guard=none):Region.wanted o f=true:=by unfold Region.wanted;rw[h]
end
def St.freeze(s:St):St:=⟨fun b=>match s.rw.find? (fun x=>x.1==b) with
 |some x=>some x.2
 |none=>s.ro b,[]⟩
theorem oH{l:List (Nat×Obj)}{b:Nat}{x:Nat×Obj}(h:l.find? (fun x=>x.1==b)=some x):x∈l∧x.1=b:=
 ⟨List.mem_of_find?_eq_some h,by simpa using List.find?_some h⟩
theorem wJ{l:List (Nat×Obj)}(hn:(l.map (·.1)).Nodup){b:Nat}(h:(b,o)∈l):l.find? (fun x=>x.1==b)=some (b,o):=by
 induction l with
 |nil=>cases h
 |cons y l ih=>
  rw[List.map_cons,List.nodup_cons] at hn
  rcases List.mem_cons.1 h with rfl|h'
  ·simp
  have:y.1≠b:=fun e=>hn.1 (e▸List.mem_map.2 ⟨_,h',rfl⟩)
  rw[List.find?_cons_of_neg (by simpa using this)]
  exact ih hn.2 h'
theorem St.Da(s:St):s.freeze.le s:=by
 refine⟨s.rw,by simp[St.freeze],fun b o h=>?_⟩
 simp only[St.freeze] at h
 split at h
 ·rename_i x hx
  obtain⟨h1,h2⟩:=oH hx
  cases h
  subst h2
  exact .inr h1
 exact .inl h
theorem St.nN{s:St}{b:Nat}(h:s.ro b=some o)(ha:∀b o,(b,o)∈s.rw→s.ro b=none):s.freeze.ro b=some o:=by
 simp only[St.freeze]
 split
 ·rename_i x hx
  obtain⟨h1,h2⟩:=oH hx
  subst h2
  rw[ha x.1 x.2 h1] at h;cases h
 exact h
theorem St.tw{s:St}{b:Nat}(h:(b,o)∈s.rw)(hn:(s.rw.map (·.1)).Nodup):s.freeze.ro b=some o:=by
 simp only[St.freeze,wJ hn h]
section
variable {P:Program} {ρ:aU} {m:Mem} {F:Nat×Obj→Prop} {R:Nat→Option Obj} {s:St}
theorem Closed.jL(hT:Closed P main T)(hs:g.status= .running)(h:(∃w,aR s w)→T g s):T g s:=by
 by_cases ha:∃w,aR s w
 ·exact h ha
 exact hT.step _ _ hs fun w hw=>absurd ⟨w,hw⟩ ha
end
section
variable {P:Program} {main:Bool} {T:Goroutine→St→Prop} {b:Frame} {k:List Item} {cs:List Frame} {a:Act} {s:St} {n LF:Nat} {D:List Deferred} {call:cq} {ops:Array Oper}
 {ρ:aU} {ce e:Env} {m:Mem} {F:Nat×Obj→Prop} {R:Nat→Option Obj}
theorem QN(hT:Closed P main T){rest:List Nat}{o:Oper}(ho:ops[i]?=some o) (hg:o.guard=none) (hk:b.kind≠ .early) (hb:b.roundOf=none) {f:FuncId} (az:o.op= .call ⟨.value (.func f),xs,ats⟩) (hf:FF P f)
 (h:T (G (Frame.enter P f (xs.map a.eval) .normal) (aL b a (.inRegion ops (i::rest)::k)::cs)) s):T (G (aL b a (.inRegion ops (i::rest)::k)) cs) s:=by
 have jJ:(b.kind==CallKind.early)=false:=by simpa using hk
 have hw:Region.wanted o (yielded ops a.tmps)=true:=dA o _ hg
 have wz:bO P (execOp a.eval o) s (fun nx s'=>nx= .enter f (xs.map a.eval)∧s'=s) (fun _ _=>False):=by
  have e1:a.eval (.func f)= .func (.func f) #[] #[]:=rfl
  simp only[execOp,az,resolve,e1,Deferred.ofValue,aa,ae,invoke]
  have:(#[]++xs.map a.eval:Array Value)++ #[]=xs.map a.eval:=by simp
  rw[this]
  exact j5 hf ⟨rfl,rfl⟩
 have gA:∀w,stepG P main (G (aL b a (.inRegion ops (i::rest)::k)) cs) w=stepG.apply P true (aL b a (.inRegion ops (i::rest)::k)) cs none (execOp a.eval o) w:=by
  intro w
  have he:=kQ b a (.inRegion ops (i::rest)::k)
  simp only[aL] at he
  simp only[G,stepG,stepG.exec,aL,ho,Option.map_some,Option.getD_some,hw,if_true,stepG.oper,Frame.oper?,he]
  rw[hb]
 refine hT.step _ _ rfl fun w pJ=>?_
 obtain⟨r,es,hr,hl⟩:=gG _ _ _ _ w #[] wz pJ
 rw[Array.empty_append] at hr
 have mI:=gA w
 simp only[stepG.apply,if_true,hr] at mI
 simp only[aL,jJ,Bool.false_eq_true,if_false] at mI
 cases r with
 |ok nx w'=>
  obtain⟨s',ht,rfl,rfl⟩:=hl
  simp only[GStep.after,Array.append_empty] at mI
  exact⟨_,_,_,_,mI,rfl,ht.sub (iC P b.fn es),h⟩
 |halt hh w'=>
  obtain⟨s',ht,hu⟩:=hl
  exact hu.elim
def cO(P:Program):Frame:={(default:Frame) with fn:=P.funcs.size,defers:=[],mode:= .panicking [goexitEntry]}
theorem Qy(P:Program):QuitsD P 1 0 (G (cO P) []):=by
 have hc:(cO P).catches P=false:=by
  simp[Frame.catches,cO]
  rfl
 refine .ctl (g':={(G (cO P) []) with status:= .finished}) rfl (fun w=>?_) ⟨rfl,rfl⟩
 have bW:stepG P false (G (cO P) []) w=unwind P false (cO P) [] none w:=rfl
 rw[bW]
 unfold unwind
 have h1:(cO P).defers=[]:=rfl
 have h2:(cO P).mode= .panicking [goexitEntry]:=rfl
 simp only[h1,h2,hc,Bool.false_eq_true,if_false]
 simp[goexitEntry,G]
theorem n7{fn:Func}(hm:fr.mode= .returning)(hd:fr.defers=[])(hk:fr.kind= .deferred)(hf:P.funcs[fr.fn]?=some fn) (hr:fn.results= #[]):QuitsD P 2 0 (G fr [cO P]):=by
 refine .ctl rfl (fun w=>?_) (Qy P)
 have h1:∀tm,results fn tm=Sem.pure (.tuple #[]):=by intro tm;simp[results,hr];rfl
 rcases fr with ⟨fn',tmps,todo,defers,mode,kind,ro⟩
 simp only at hm hd hk hf
 subst hm hd hk
 simp only[G,stepG,unwind,hf,h1,Sem.runT,seen_none,GStep.after,doReturn,cO,goexitEntry,Array.append_empty]
end
structure To where
 f:FuncId
 n:Nat
 cl:List Code
 o7:Array Oper
 o:Oper
 sc:Operand
 sv:Operand
 done:FuncId
def goE(P:Program)(ty:TypeId):Nat→Frame→List Frame→Option (Frame×List Frame)
 |0,fr,iu=>some (fr,iu)
 |n+1,fr,iu=>match QQ P ty jq fr iu with
  |some (.go nO fZ,[],[],[])=>goE P ty n nO fZ
  |_=>none
theorem Wm{T:Goroutine→Prop}(hs:∀g g',g.status= .running→g'.status= .running→(∀w,stepG P main g w= .go g' w #[])→T g'→T g):∀ {n:Nat} {fr nO:Frame} {iu fZ:List Frame},goE P ty n fr iu=some (nO,fZ)→T (G nO (fZ++cs))→T (G fr (iu++cs))
 |0,fr,nO,iu,fZ,h,hT=>by simp only[goE,Option.some.injEq,Prod.mk.injEq] at h;obtain⟨rfl,rfl⟩:=h;exact hT
 |n+1,fr,nO,iu,fZ,h,hT=>by
  simp only[goE] at h
  split at h<;>try (cases h;done)
  rename_i f1 s1 h0
  refine hs _ _ rfl rfl (fun w=>?_) (Wm hs h hT)
  have:=rj (W:=0) (w:=w) h0 (by simp) (.inl ⟨rfl,rfl⟩) cs main
  simp only[OV.is] at this
  rw[this];rfl
theorem IE{f:FuncId}(hf:FF P f)(ca:Array Value)(w:World):stepG P main (born P {target:= .fn (.func f) ca,args:= #[]}) w= .go (G (Frame.enter P f (#[]++ca) .deferred) [cO P]) w #[]:=by
 obtain⟨fn,h1,h2,h3⟩:=hf.ff
 have bX:(callFunc f (#[]++ca)).runT P w #[]=(.ok (.enter f (#[]++ca)) w,#[]):=by
  show (Sem.program _).runT P w #[]=_
  simp only[Sem.runT,Sem.bind,h1,h2,h3,Bool.false_eq_true,if_false]
  rfl
 simp only[born,stepG,unwind,callDeferred,invoke,bX,GStep.after,seen_none,Bool.false_and,Bool.false_eq_true,if_false,Array.append_empty,G,cO]
structure My where
 f:FuncId
 n:Nat
 b:Frame
 q0:Array Oper
 o0:Oper
 rest:Code
 q1:Array Oper
 oc:Oper
 cx:Operand
 wait:FuncId
structure My.OK(P:Program)(ty:TypeId)(x:My):Prop where
 ff:BU P x.f=true
 fn:∃fn,P.funcs[x.f]?=some fn∧fn.results= #[]∧fn.norace=false
 bf:x.b.fn=x.f∧x.b.kind= .deferred∧x.b.roundOf=none
 enter:∀p1 p2:Value,goE P ty 3 (Frame.enter P x.f #[p1,p2] .deferred) []=some (Frame.enter P x.wait #[p1] .normal,[aL x.b (A x.n (fM 0 [p1,p2]) []) [.inRegion x.q0 [0],.code x.rest]])
 op0:x.q0[0]?=some x.o0
 rest:∃id,gE [x.rest]=[.region id x.q1 false]
 size:x.q1.size=2
 op:x.q1[1]?=some x.oc∧x.oc.guard=none∧∃ats,x.oc.op= .call {callee:= .builtin .close,args:= #[x.cx],argTypes:=ats}
theorem gk(h:gE l=[]):l=[]:=by
 cases l with
 |nil=>rfl
 |cons y l=>
  exfalso
  have:∀c:Code,iS c≠[]:=by
   intro c
   induction c with
   |seq p q ihp ihq=>simp[iS,ihp]
   |_=>simp[iS]
  simp only[gE,List.flatMap_cons,List.append_eq_nil_iff] at h
  exact this y h.1
theorem Df{b:Frame}(h:b.roundOf=none)(a:Act)(todo:List Item):aL b a todo=b.at a todo:=by simp[aL,Frame.at,h]
def UY(P:Program):Sem Next→Nat→Option (Obj×Value)
 | .new o k,b=>match bw P (k b) with
  |some (.value v)=>some (o,v)
  |_=>none
 | .program k,b=>UY P (k P) b
 |_,_=>none
theorem G0{f:Nat→Value}{s:St}{K:Next→St→Prop}{E:Halt→St→Prop}(hK:∀b,¬s.knows b→K (.value (f b)) ⟨s.ro,(b,o)::s.rw⟩):∀(x:Sem Next),(∀b,UY P x b=some (o,f b))→bO P x s K E:=by
 intro x
 induction x with
 |new o' k ih=>
  intro h b hb
  have h':=h b
  simp only[UY] at h'
  split at h'<;>try (cases h';done)
  rename_i v hv
  simp only[Option.some.injEq,Prod.mk.injEq] at h'
  obtain⟨rfl,rfl⟩:=h'
  exact ov hv (hK b hb)
 |program k ih=>intro h;exact ih P h
 |_=>intro h;have:=h 0;simp[UY] at this
structure rO where
 f:FuncId
 n:Nat
 fn:Func
 o0:Array Oper
 o1:Array Oper
 o2:Array Oper
 o3:Array Oper
 o4:Array Oper
 o5:Array Oper
 o6:Array Oper
 o7:Array Oper
 o8:Array Oper
 o9:Array Oper
 o10:Array Oper
 o11:Array Oper
 Cp:Array Oper
 o13:Array Oper
 o14:Array Oper
 a1:Oper
 a2:Oper
 a6:Oper
 a7:Oper
 a9:Oper
 Tn:Oper
 lb:Code
 DV:Code
 rb:Code
 uM:Code
 c4:Operand
 c12:Operand
 b0:Nat
 b1:Nat
 b2:Nat
 b3:Nat
 fin:List Code
 add:FuncId
 apU:Operand
 sp:Operand
 sk:Operand
 rc:Operand
 wk:To
 cl:My
 ty:TypeId
 mx:Nat
def cP(l:List Code)(i:Nat):Array Oper:=match l[i]? with
 |some (.region _ ops _)=>ops
 |_=> #[]
def eF(o:Array Oper)(i:Nat):Oper:=(o[i]?).getD default
def agu(l:List Code)(i:Nat):Nat×Code:=match l[i]? with
 |some (.block id (.loop c))=>(id,c)
 |_=>(0,.skip)
def Z3(l:List Code)(i:Nat):Nat×Code:=match l[i]? with
 |some (.block id c)=>(id,c)
 |_=>(0,.skip)
def akn(l:List Code)(i:Nat):Operand:=match l[i]? with
 |some (.cond c _ _)=>c
 |_=> .func 0
def IC(o:Oper):FuncId:=match o.op with
 | .call ⟨.value (.func f),_,_⟩=>f
 | .defer ⟨.value (.func f),_,_⟩=>f
 |_=>0
def asG(o:Oper)(i:Nat):Operand:=match o.op with
 | .call ⟨_,xs,_⟩=>(xs[i]?).getD (.func 0)
 |_=> .func 0
def aHV(o:Oper):Operand:=match o.op with
 | .go ⟨.value x,_,_⟩=>x
 |_=> .func 0
def asf(o:Oper):FuncId:=match o.op with
 | .makeFunc (.func f) _ _=>f
 |_=>0
def chanOf(o:Oper):Operand:=match o.op with
 | .recv _ c _=>c
 | .send c _=>c
 |_=> .func 0
def atT(o:Oper):Operand:=match o.op with
 | .send _ x=>x
 |_=> .func 0
def typeOf(o:Oper):TypeId:=match o.op with
 | .alloc t=>t
 |_=>0
def codeOf(P:Program)(f:FuncId):List Code:=match P.funcs[f]? with
 |some fn=>match fn.body with
  |some c=>iS c
  |none=>[]
 |none=>[]
def tmpsOf(P:Program)(f:FuncId):Nat:=match P.funcs[f]? with
 |some fn=>fn.ntmps
 |none=>0
def auh(P:Program)(f:FuncId):Code:=match P.funcs[f]? with
 |some fn=>match fn.body with
  |some (.seq _ c)=>c
  |_=> .skip
 |none=> .skip
def ayV(P:Program)(f:FuncId)(mx:Nat):rO:=
 let l:=codeOf P f
 let lb:=agu l 4
 let ll:=iS lb.2
 let bb:=Z3 ll 2
 let bl:=iS bb.2
 let rb:=agu l 8
 let rl:=iS rb.2
 let rbb:=Z3 rl 2
 let rbl:=iS rbb.2
 let wf:=asf (eF (cP bl 2) 0)
 let wl:=codeOf P wf
 let cf:=asf (eF (cP l 5) 0)
 let cl:=codeOf P cf
 {f,n:=tmpsOf P f,fn:=(P.funcs[f]?).getD default,o0:=cP l 0,o1:=cP l 1,o2:=cP l 2,o3:=cP l 3,o4:=cP ll 0,o5:=cP bl 0,o6:=cP bl 1,o7:=cP bl 2,o8:=cP ll 3,
  o9:=cP l 5,o10:=cP l 6,o11:=cP l 7,Cp:=cP rl 0,o13:=cP rbl 0,o14:=cP rbl 1,
  a1:=eF (cP l 1) 0,a2:=eF (cP l 2) 0,a6:=eF (cP bl 1) 0,a7:=eF (cP bl 2) 1,a9:=eF (cP l 5) 1,Tn:=eF (cP rl 0) 0,
  lb:=lb.2,DV:=bb.2,rb:=rb.2,uM:=rbb.2,c4:=akn ll 1,c12:=akn rl 1,b0:=lb.1,b1:=bb.1,b2:=rb.1,b3:=rbb.1,fin:=(l.drop 9).dropLast,
  add:=IC (eF (cP bl 1) 0),apU:=asG (eF (cP bl 1) 0) 0,sp:=aHV (eF (cP bl 2) 1),sk:=aHV (eF (cP l 5) 1),rc:=chanOf (eF (cP rl 0) 0),
  wk:={f:=wf,n:=tmpsOf P wf,cl:=wl.dropLast,o7:=cP wl (wl.length-1),o:=eF (cP wl (wl.length-1)) 2,sc:=chanOf (eF (cP wl (wl.length-1)) 2),sv:=atT (eF (cP wl (wl.length-1)) 2),done:=IC (eF (cP wl 0) 0)},
  cl:={f:=cf,n:=tmpsOf P cf,b:={(default:Frame) with fn:=cf,kind:= .deferred,roundOf:=none},q0:=cP cl 0,o0:=eF (cP cl 0) 0,rest:=auh P cf,q1:=cP cl 1,oc:=eF (cP cl 1) 1,cx:=asG (eF (cP cl 1) 1) 0,wait:=IC (eF (cP cl 0) 0)},
  ty:=typeOf (eF (cP l 2) 0),mx}
theorem xo{k:Nat}:∀b∈List.replicate k W,b=W:=fun b hb=>(List.mem_replicate.1 hb).2
section
variable {gJ:Os} {cB:Array (Nat×ByteArray)} {P:Program} {T:Goroutine→St→Prop} {b:Frame} {k:List Item} {cs:List Frame} {a:Act} {s:St} {n LF:Nat} {call:cq} {ops:Array Oper}
 {ρ:aU} {ce e:Env} {m:Mem} {x:rO} {Wg Ch:Nat} {L:Nat→Option Obj} {Q:Machine→Outcome→World→Trace→Prop}
theorem FA{rest:List Nat}{o:Oper}(ho:ops[i]?=some o) (hg:o.guard=none) (hk:b.kind≠ .early) (hb:b.roundOf=none) {y:Operand} (az:o.op= .go ⟨.value y,#[],ats⟩) {f:FuncId} (hy:a.eval y= .func (.func f) #[] ca) (w:World):
 stepG P main (G (aL b a (.inRegion ops (i::rest)::k)) cs) w= .spawn (G (aL b (a.put o.dst undef) (.inRegion ops rest::k)) cs) (born P {target:= .fn (.func f) ca,args:= #[]}) w #[]:=by
 have hw:Region.wanted o (yielded ops a.tmps)=true:=dA o _ hg
 have hx:execOp a.eval o=Sem.pure (.spawn {target:= .fn (.func f) ca,args:= #[]}):=by
  simp only[execOp,az,resolve,hy,Deferred.ofValue]
  show Sem.pure (Next.spawn {target:= .fn (.func f) ca,args:= #[]++Array.map a.eval #[]})=_
  simp
 rw[Df hb,Df hb]
 have:=stepG_spawn (P:=P) (main:=main) (b:=b) (a:=a) (k:=k) (cs:=cs) (w:=w) (w':=w) (d:={target:= .fn (.func f) ca,args:= #[]}) ho hw hk (rest:=rest) (by rw[hx];rfl) rfl
 rw[this,listed_none (by rw[hx];rfl)]
end
theorem tQ:∀ {x:Sem α} {a:α},bw P x=some a→∀(w:World) (es:Array Event),x.runT P w es=(.ok a w,es)
 | .pure _,_,h,w,es=>by simp only[bw,Option.some.injEq] at h;subst h;rfl
 | .program k,_,h,w,es=>tQ (x:=k _) h w es
def C0(P:Program):Class:=fun main T=>main=true∧∃gJ cB Post,T=T0 P gJ cB Post
theorem xN:∀main T,C0 P main T→Closed P main T:=by
 rintro _ _ ⟨rfl,gJ,cB,Post,rfl⟩
 exact sQ P gJ cB Post
abbrev CP(P:Program):Class:=fun main T=>Closed P main T
theorem eP:∀main T,CP P main T→Closed P main T:=fun _ _ h=>h
abbrev Cells:=List (Nat×Obj)
variable {Φ:Value→Cells→Prop} {B X rw' rw:Cells}
def Sub(ro aD:Nat→Option Obj):Prop:=∀b o,ro b=some o→aD b=some o
theorem Sub.refl(ro:Nat→Option Obj):Sub ro ro:=fun _ _ h=>h
theorem Sub.trans{a b c:Nat→Option Obj}(h:Sub a b)(k:Sub b c):Sub a c:=fun x o hx=>k x o (h x o hx)
structure ac8(fr B:Cells)(ro:Nat→Option Obj)(s1 s:St):Prop where
 rw:s.rw.Perm (s1.rw++fr)
 aG:∀b o,s1.ro b=some o→s.ro b=some o∨(b,o)∈B
 keep:Sub ro s.ro
theorem xL(hT:Closed P main T){s:St}(hg:g.status= .running)(h:(∃w,aR s w)→T g s):T g s:=by
 by_cases hw:∃w,aR s w
 ·exact h hw
 exact hT.step g s hg fun w pJ=>absurd ⟨w,pJ⟩ hw
theorem Bg(hT:Closed P main T){fr:Cells}(hB:∀x∈B,x∈fr)(ro:Nat→Option Obj):
 Closed P main (fun g s1=>g.status= .running→∀s,ac8 fr B ro s1 s→T g s) where
 step:=fun g s1 hg h _ s hc=>by
  refine hT.step g s hg fun w hw=>?_
  have Pe:∀x,x∈s.rw↔x∈s1.rw∨x∈fr:=fun x=>by rw[hc.rw.mem_iff,List.mem_append]
  have mb:=(hc.rw.map (·.1)).nodup_iff.1 hw.nodup
  rw[List.map_append,List.nodup_append] at mb
  obtain⟨hn1,hn2,hn3⟩:=mb
  have aGG:∀b o o',(b,o)∈s1.rw→(b,o')∈fr→False:=fun b o o' h1 h2=>hn3 b (List.mem_map.2 ⟨_,h1,rfl⟩) b (List.mem_map.2 ⟨_,h2,rfl⟩) rfl
  have aTp:aR s1 w:=by
   refine⟨fun b o hb=>?_,fun b o hb=>hw.rw b o ((Pe _).2 (.inl hb)),hn1,fun b o hb=>?_⟩
   ·rcases hc.aG b o hb with h1|h1
    ·exact hw.ro b o h1
    exact hw.rw b o ((Pe _).2 (.inr (hB _ h1)))
   cases hr:s1.ro b with
   |none=>rfl
   |some o'=>
    rcases hc.aG b o' hr with h1|h1
    ·rw[hw.apart b o ((Pe _).2 (.inl hb))] at h1;cases h1
    exact(aGG b o o' hb (hB _ h1)).elim
  obtain⟨g',w',es,yK,bW,bX,ht,hT'⟩:=h w aTp
  have aih:∀b o,(b,o)∈fr→b <w.heap.size:=fun b o hb=>hw.lt (.inr ((Pe _).2 (.inr hb)))
  have axr:∀b o,(b,o)∈fr→¬s1.iW b:=fun b o hb ⟨o',Ft⟩=>aGG b o' o Ft hb
  have awv:∀b,s.ro b≠none→¬s1.iW b:=fun b hb ⟨o',Ft⟩=>hb (hw.apart b o' ((Pe _).2 (.inl Ft)))
  have aht:∀b,s.ro b≠none→b <w.heap.size:=fun b hb=>by
   cases hr:s.ro b with
   |none=>exact absurd hr hb
   |some o=>exact hw.lt (.inl hr)
  have aGt:∀b o,(b,o)∈fr→w'.heap[b]?=some o:=fun b o hb=>by
   rw[ht.frame b (aih b o hb) (axr b o hb)]
   exact hw.rw b o ((Pe _).2 (.inr hb))
  classical
  let aD:Nat→Option Obj:=fun b=>if ∃o,(b,o)∈fr then none else match yK.ro b with
   |some o=>some o
   |none=>s.ro b
  have aww:∀b o,aD b=some o→¬(∃o,(b,o)∈fr)∧(yK.ro b=some o∨(yK.ro b=none∧s.ro b=some o)):=fun b o hb=>by
   simp only[aD] at hb
   split at hb
   ·cases hb
   rename_i hn
   refine⟨hn,?_⟩
   cases h1:yK.ro b with
   |none=>rw[h1] at hb;exact .inr ⟨rfl,hb⟩
   |some o2=>rw[h1] at hb;exact .inl hb
  have aTo:aR ⟨aD,yK.rw++fr⟩ w':=by
   refine⟨fun b o hb=>?_,fun b o hb=>?_,?_,fun b o hb=>?_⟩
   ·obtain⟨_,h1| ⟨_,h2⟩⟩:=aww b o hb
    ·exact ht.jL.ro b o h1
    have dI:s.ro b≠none:=by rw[h2];simp
    rw[ht.frame b (aht b dI) (awv b dI)]
    exact hw.ro b o h2
   ·rcases List.mem_append.1 hb with hb|hb
    ·exact ht.jL.rw b o hb
    exact aGt b o hb
   ·show ((yK.rw++fr).map (·.1)).Nodup
    rw[List.map_append,List.nodup_append]
    refine⟨ht.jL.nodup,hn2,fun x hx y hy e=>?_⟩
    obtain⟨⟨b,o⟩,h1,rfl⟩:=List.mem_map.1 hx
    obtain⟨⟨b2,o2⟩,h2,rfl⟩:=List.mem_map.1 hy
    dsimp only at e;subst e
    rcases ht.own b ⟨o,h1⟩ with h3|h3
    ·exact absurd (aih b o2 h2) (by omega)
    exact axr b o2 h2 h3
   show aD b=none
   rcases List.mem_append.1 hb with hb|hb
   ·cases hr:aD b with
    |none=>rfl
    |some o'=>
     obtain⟨hn,h1| ⟨_,h2⟩⟩:=aww b o' hr
     ·rw[ht.jL.apart b o hb] at h1;cases h1
     have dI:s.ro b≠none:=by rw[h2];simp
     rcases ht.own b ⟨o,hb⟩ with h3|h3
     ·exact absurd (aht b dI) (by omega)
     exact(awv b dI h3).elim
   simp only[aD]
   rw[if_pos ⟨o,hb⟩]
  have aGL:ac8 fr B ro yK ⟨aD,yK.rw++fr⟩:=by
   refine⟨.refl _,fun b o hb=>?_,fun b o hb=>?_⟩
   ·by_cases hf:∃o,(b,o)∈fr
    ·obtain⟨o2,I7⟩:=hf
     have e1:=ht.jL.ro b o hb
     rw[aGt b o2 I7] at e1
     cases e1
     rcases ht.MS b (by rw[hb];simp) with h1|h1|h1
     ·exact absurd (aih b _ I7) (by omega)
     ·cases hr:s1.ro b with
      |none=>exact absurd hr h1
      |some o3=>
       rcases hc.aG b o3 hr with h3|h3
       ·rw[hw.apart b _ ((Pe _).2 (.inr I7))] at h3;cases h3
       have e3:=hw.rw b o3 ((Pe _).2 (.inr (hB _ h3)))
       rw[hw.rw b _ ((Pe _).2 (.inr I7))] at e3
       cases e3
       exact .inr h3
     exact(axr b _ I7 h1).elim
    left
    show aD b=some o
    simp only[aD]
    rw[if_neg hf,hb]
   have h1:=hc.keep b o hb
   have dI:s.ro b≠none:=by rw[h1];simp
   have hf:¬ ∃o,(b,o)∈fr:=fun⟨o2,I7⟩=>dI (hw.apart b o2 ((Pe _).2 (.inr I7)))
   show aD b=some o
   simp only[aD]
   rw[if_neg hf]
   cases h2:yK.ro b with
   |none=>exact h1
   |some o2=>
    have e1:=ht.jL.ro b o2 h2
    rw[ht.frame b (aht b dI) (awv b dI),hw.ro b o h1] at e1
    exact e1.symm
  refine⟨g',w',es,⟨aD,yK.rw++fr⟩,bW,bX,⟨aTo,ht.size,fun b hb hn=>?_,fun b hb=>?_,fun b hb=>?_,ht.os,ht.output,ht.tape,fun e he=>?_,ht.low⟩,hT' bX _ aGL⟩
  ·exact ht.frame b hb fun⟨o,ho⟩=>hn ⟨o,(Pe _).2 (.inl ho)⟩
  ·obtain⟨o,ho⟩:=hb
   rcases List.mem_append.1 ho with ho|ho
   ·rcases ht.own b ⟨o,ho⟩ with h3| ⟨o3,h3⟩
    ·exact .inl h3
    exact .inr ⟨o3,(Pe _).2 (.inl h3)⟩
   exact .inr ⟨o,(Pe _).2 (.inr ho)⟩
  ·have hb:aD b≠none:=hb
   cases hr:aD b with
   |none=>exact absurd hr hb
   |some o=>
    obtain⟨hn,h1| ⟨_,h2⟩⟩:=aww b o hr
    ·rcases ht.MS b (by rw[h1];simp) with h3|h3| ⟨o3,h3⟩
     ·exact .inl h3
     ·cases h4:s1.ro b with
      |none=>exact absurd h4 h3
      |some o4=>
       rcases hc.aG b o4 h4 with h5|h5
       ·exact .inr (.inl (by rw[h5];simp))
       exact absurd ⟨_,hB _ h5⟩ hn
     exact .inr (.inr ⟨o3,(Pe _).2 (.inl h3)⟩)
    exact .inr (.inl (by rw[h2];simp))
  have TQ:=ht.vx e he
  have arN:∀b,(∃o,(b,o)∈s1.rw)→s.iW b:=fun b ⟨o,ho⟩=>⟨o,(Pe _).2 (.inl ho)⟩
  have aFh:∀b,s1.ro b≠none→s.ro b≠none∨s.iW b:=fun b hb=>by
   cases h4:s1.ro b with
   |none=>exact absurd h4 hb
   |some o4=>
    rcases hc.aG b o4 h4 with h5|h5
    ·exact .inl (by rw[h5];simp)
    exact .inr ⟨o4,(Pe _).2 (.inr (hB _ h5))⟩
  unfold IY at*
  split at TQ
  ·refine⟨TQ.1,?_⟩
   rcases TQ.2 with h1|h1| ⟨h1,h2⟩
   ·exact .inl h1
   ·exact .inr (.inl (arN _ h1))
   rcases aFh _ h2 with h3|h3
   ·exact .inr (.inr ⟨h1,h3⟩)
   exact .inr (.inl h3)
  ·refine⟨TQ.1,?_⟩
   rcases TQ.2 with h1|h1| ⟨h1,h2⟩
   ·exact .inl h1
   ·exact .inr (.inl (arN _ h1))
   rcases aFh _ h2 with h3|h3
   ·exact .inr (.inr ⟨h1,h3⟩)
   exact .inr (.inl h3)
  ·exact TQ
  exact TQ
 mono:=fun g s1 yK hl h bX s hc=>by
  refine xL hT bX fun⟨w,hw⟩=>?_
  obtain⟨R,hR,A7⟩:=hl
  have Pe:∀x,x∈s.rw↔x∈yK.rw∨x∈fr:=fun x=>by rw[hc.rw.mem_iff,List.mem_append]
  have ayd:∀x,x∈R→x∈s.rw:=fun x hx=>(Pe x).2 (.inl (hR.mem_iff.2 (List.mem_append_right _ hx)))
  classical
  let pE:Nat→Option Obj:=fun b=>if hx:∃o,(b,o)∈R then some (Classical.choose hx) else s.ro b
  have Hs:∀b o,(b,o)∈R→pE b=some o:=fun b o hb=>by
   have hx:∃o,(b,o)∈R:=⟨o,hb⟩
   simp only[pE]
   rw[dif_pos hx]
   have h1:=hw.rw b _ (ayd _ (Classical.choose_spec hx))
   rw[hw.rw b o (ayd _ hb)] at h1
   cases h1;rfl
  have ia:∀b o,s.ro b=some o→pE b=some o:=fun b o hb=>by
   simp only[pE]
   rw[dif_neg]
   ·exact hb
   rintro⟨o2,I7⟩
   rw[hw.apart b o2 (ayd _ I7)] at hb;cases hb
  refine hT.mono g ⟨pE,s1.rw++fr⟩ s ⟨R,?_,fun b o hb=>?_⟩ (h bX _ ⟨.refl _,fun b o hb=>?_,fun b o hb=>ia b o (hc.keep b o hb)⟩)
  ·refine hc.rw.trans ((List.Perm.append_right fr hR).trans ?_)
   rw[List.append_assoc,List.append_assoc]
   exact List.Perm.append_left _ List.perm_append_comm
  ·simp only[pE] at hb
   split at hb
   ·rename_i hx
    simp only[Option.some.injEq] at hb
    exact .inr (hb▸Classical.choose_spec hx)
   exact .inl hb
  rcases A7 b o hb with h1|h1
  ·exact(hc.aG b o h1).imp (ia b o) id
  exact .inl (Hs b o h1)
theorem Fn.frame{f:FuncId}{s1 s:St}{R:Ending→St→Prop}{fr:Cells}(hf:Fn (CP P) P f args s1 R)(hB:∀x∈B,x∈fr)(hc:ac8 fr B ro s1 s):
 Fn (CP P) P f args s (fun en s'=>∃yK,R en yK∧ac8 fr B ro yK s'):=
 fun main T hT c cs k1 k2=>hf main _ (Bg hT hB ro) c cs (fun v yK hv _ s' tv=>k1 v s' ⟨yK,hv,tv⟩) (fun ch yK hv _ s' tv=>k2 ch s' ⟨yK,hv,tv⟩) rfl s hc
def dG(P:Program)(f:FuncId)(args:List Value)(ro:Nat→Option Obj)(own:Cells)(Φ:Value→Cells→Prop):Prop:=
 Fn (CP P) P f ⟨args⟩ ⟨ro,own⟩ (fun en s'=>∃v X,en= .returned v∧s'=⟨ro,X⟩∧Φ v X)
abbrev du(P:Program)(f:FuncId)(args:List Value)(ro:Nat→Option Obj)(V:Value):Prop:=dG P f args ro [] (fun v X=>v=V∧X=[])
theorem dG.mono{f:FuncId}{args:List Value}{own:Cells}{Φ':Value→Cells→Prop}(h:dG P f args ro own Φ)(hk:∀v X,Φ v X→Φ' v X):dG P f args ro own Φ':=
 Fn.mono h fun _ _ ⟨v,X,h1,h2,h3⟩=>⟨v,X,h1,h2,hk v X h3⟩
theorem Og:Ext ⟨ro,[]⟩ ⟨ro,rw⟩:=fun _ _ h=>h.elim .inl (fun h=>by cases h)
theorem ux{aD:Nat→Option Obj}(h:Sub ro aD):Ext ⟨ro,[]⟩ ⟨aD,[]⟩:=fun b o hb=>hb.elim (fun hb=> .inl (h b o hb)) (fun hb=>by cases hb)
def bB(ro:Nat→Option Obj)(v:Value)(sz:Nat)(enc:α→List Value)(ps:List α):Prop:=
 ∃a b o cap,v= .slice a ps.length cap∧ps.length≤cap∧(∀k,k <ps.length→a=some ⟨b,o,none⟩)∧∀i p,ps[i]?=some p→cD ⟨ro,[]⟩ b (o+i*sz) sz (enc p)
theorem bB.nil(ro:Nat→Option Obj)(sz:Nat)(enc:α→List Value)(a:Option Addr)(cap:Nat):bB ro (.slice a 0 cap) sz enc []:=⟨a,0,0,cap,rfl,Nat.zero_le _,fun k h=>absurd h (Nat.not_lt_zero k),fun i p hp=>by simp at hp⟩
theorem bB.up{aD:Nat→Option Obj}{v:Value}{enc:α→List Value}{ps:List α}(h:bB ro v sz enc ps)(hs:Sub ro aD):bB aD v sz enc ps:=by
 obtain⟨a,b,o,cap,h1,h4,h2,h3⟩:=h
 exact⟨a,b,o,cap,h1,h4,h2,fun i p hp=>(h3 i p hp).ext (ux hs)⟩
section rules
variable {P:Program} {C:Class} {fn:FuncId} {aA:Option Nat} {Q:Post} {s:St} {n:Nat} {env:Env} {D:List Deferred}
variable {ops:Array Oper} {i:Nat} {rest:List Nat} {dst:Option Tmp} {ty:TypeId} {pos:String} {cY:Array Edge} {g:Option (Nat×Bool)}
variable {T:TypeId} {d:TypeDesc} {sz bE:Nat} {z:List Value} {ag:Bool} {ro:Nat→Option Obj} {rw:Cells}
theorem ab.more{a:Act}(hC:∀main T,C main T→Closed P main T)(hl:s.le s')(h:ab C fn aA ops todo Q a s):ab C fn aA ops todo Q a s':=
 fun main T hT b k cs h1 h2 h3 h4=>(hC _ _ hT).mono _ _ _ hl (h main T hT b k cs h1 h2 h3 h4)
theorem ane{a:Act}(hC:∀main T,C main T→Closed P main T)(h:(∃w,aR s w)→ab C fn aA ops todo Q a s):ab C fn aA ops todo Q a s:=
 fun main T hT b k cs h1 h2 h3 h4=>xL (hC _ _ hT) rfl fun hw=>h hw main T hT b k cs h1 h2 h3 h4
theorem as4{a:Act}{c:Code}(hC:∀main T,C main T→Closed P main T)(h:(∃w,aR s w)→Wp C fn aA c Q a s):Wp C fn aA c Q a s:=
 fun main T hT b k cs h1 h2 h3 h4=>xL (hC _ _ hT) rfl fun hw=>h hw main T hT b k cs h1 h2 h3 h4
theorem Wq{f:FuncId}{R:Ending→St→Prop}(hC:∀main T,C main T→Closed P main T)(h:(∃w,aR s w)→Fn C P f args s R):Fn C P f args s R:=
 fun main T hT c cs h1 h2=>xL (hC _ _ hT) rfl fun hw=>h hw main T hT c cs h1 h2
theorem Ob(hp:rw.Perm (X++s.rw))(hw:∃w,aR ⟨s.ro,rw⟩ w):∃aD,Sub s.ro aD∧(∀x∈X,aD x.1=some x.2)∧(⟨aD,s.rw⟩:St).le ⟨s.ro,rw⟩:=by
 classical
 obtain⟨w,hw⟩:=hw
 have Ak:∀x,x∈X→x∈rw:=fun x hx=>hp.mem_iff.2 (List.mem_append_left _ hx)
 refine⟨fun b=>if hx:∃o,(b,o)∈X then some (Classical.choose hx) else s.ro b,fun b o hb=>?_,fun x hx=>?_,X,hp.trans List.perm_append_comm,fun b o hb=>?_⟩
 ·simp only
  rw[dif_neg]
  ·exact hb
  rintro⟨o2,I7⟩
  have:=hw.apart b o2 (Ak _ I7)
  rw[show s.ro b=none from this] at hb;cases hb
 ·obtain⟨b,o⟩:=x
  have k7:∃o,(b,o)∈X:=⟨o,hx⟩
  simp only
  rw[dif_pos k7]
  have h1:=hw.rw b _ (Ak _ (Classical.choose_spec k7))
  rw[hw.rw b o (Ak _ hx)] at h1
  cases h1;rfl
 simp only at hb
 split at hb
 ·rename_i hx
  simp only[Option.some.injEq] at hb
  exact .inr (hb▸Classical.choose_spec hx)
 exact .inl hb
theorem aau{a:Act}{c:Code}(hC:∀main T,C main T→Closed P main T)(hp:rw'.Perm (X++rw))(h:∀aD,Sub ro aD→(∀x∈X,aD x.1=some x.2)→Wp C fn aA c Q a ⟨aD,rw⟩):Wp C fn aA c Q a ⟨ro,rw'⟩:=
 as4 hC fun hw=>by
  obtain⟨aD,h1,h2,h3⟩:=Ob (s:=⟨ro,rw⟩) hp hw
  exact(h aD h1 h2).more hC h3
theorem US{a:Act}(hC:∀main T,C main T→Closed P main T)(hp:rw'.Perm (X++rw))(h:∀aD,Sub ro aD→(∀x∈X,aD x.1=some x.2)→ab C fn aA ops todo Q a ⟨aD,rw⟩):ab C fn aA ops todo Q a ⟨ro,rw'⟩:=
 ane hC fun hw=>by
  obtain⟨aD,h1,h2,h3⟩:=Ob (s:=⟨ro,rw⟩) hp hw
  exact(h aD h1 h2).more hC h3
theorem dG.use{f:FuncId}{own fr:Cells}(hp:s.rw.Perm (own++fr))(hB:∀x∈B,x∈fr)(hf:∀aG,Sub s.ro aG→(∀x∈B,aG x.1=some x.2)→dG P f vs aG own Φ):
 Fn (CP P) P f ⟨vs⟩ s (fun en s'=>∃v X,en= .returned v∧Φ v X∧(⟨s.ro,X++fr⟩:St).le s'):=by
 refine Wq eP fun⟨w,hw⟩=>?_
 classical
 have Ak:∀x,x∈B→x∈s.rw:=fun x hx=>hp.mem_iff.2 (List.mem_append_right _ (hB x hx))
 let aG:Nat→Option Obj:=fun b=>if hx:∃o,(b,o)∈B then some (Classical.choose hx) else s.ro b
 have h1:Sub s.ro aG:=fun b o hb=>by
  simp only[aG]
  rw[dif_neg]
  ·exact hb
  rintro⟨o2,I7⟩
  rw[hw.apart b o2 (Ak _ I7)] at hb;cases hb
 have h2:∀x∈B,aG x.1=some x.2:=fun⟨b,o⟩ hx=>by
  have k7:∃o,(b,o)∈B:=⟨o,hx⟩
  simp only[aG]
  rw[dif_pos k7]
  have h3:=hw.rw b _ (Ak _ (Classical.choose_spec k7))
  rw[hw.rw b o (Ak _ hx)] at h3
  cases h3;rfl
 refine Fn.mono (Fn.frame (fr:=fr) (B:=B) (ro:=s.ro) (s:=s) (hf aG h1 h2) hB ⟨hp,fun b o hb=>?_,Sub.refl _⟩) fun en s' DY=>?_
 ·simp only[aG] at hb
  split at hb
  ·rename_i hx
   simp only[Option.some.injEq] at hb
   exact .inr (hb▸Classical.choose_spec hx)
  exact .inl hb
 obtain⟨yK,⟨v,X,rfl,rfl,pG⟩,hc⟩:=DY
 exact⟨v,X,rfl,pG,[],by simpa using hc.rw,fun b o hb=> .inl (hc.keep b o hb)⟩
theorem afW(hC:∀main T,C main T→Closed P main T){f:FuncId}{own fr:Cells}(ho:ops[i]?=some ⟨dst,.call ⟨.value x,xs,at_⟩,ty,pos,cY,g⟩) (hw:ay ops n env g=true)
 (hv:bp n env x=some (.func (.func f) fi ca)) (ff:FF P f) (hx:vx n env xs=some vs) (si:fi++⟨vs⟩++ca=⟨ws⟩) (hp:s.rw.Perm (own++fr)) (hB:∀x∈B,x∈fr) (hf:∀aG,Sub s.ro aG→(∀x∈B,aG x.1=some x.2)→dG P f ws aG own Φ)
 (h:∀v X,Φ v X→ab C fn aA ops rest Q (A n (upd dst v env) D) ⟨s.ro,X++fr⟩):ab C fn aA ops (i::rest) Q (A n env D) s:=
 uf hC ho hw hv ff hx si ((dG.use hp hB hf).weaken hC) (fun v' s' hr=>by obtain⟨v,X,e,h1,h2⟩:=hr;cases e;exact(h _ X h1).more hC h2) (fun ch s' hr=>by obtain⟨_,_,e,_⟩:=hr;cases e) (fun s' hr=>by obtain⟨_,_,e,_⟩:=hr;cases e)
theorem du.use{f:FuncId}{V:Value}{sz:St}(hez:Ext s sz)(hf:∀aG,(∀b o,s.has b o→aG b=some o)→du P f vs aG V):Fn (CP P) P f ⟨vs⟩ sz (fun e s'=>e= .returned V∧sz.le s'):=by
 refine Wq eP fun⟨w,hw⟩=>?_
 refine Fn.mono (dG.use (s:=sz) (own:=[]) (fr:=sz.rw) (B:=sz.rw) (.refl _) (fun _ h=>h) (fun aG h1 h2=>hf aG fun b o hb=>?_)) fun en s' DY=>?_
 ·rcases hez b o hb with h3|h3
  ·exact h1 b o h3
  exact h2 _ h3
 obtain⟨v,X,e,⟨h1,h2⟩,h3⟩:=DY
 subst h1 h2
 exact⟨e,h3⟩
theorem Q0(hC:∀main T,C main T→Closed P main T){f:FuncId}{V:Value}{s0:St}(ho:ops[i]?=some ⟨dst,.call ⟨.value x,xs,at_⟩,ty,pos,cY,g⟩) (hw:ay ops n env g=true)
 (hv:bp n env x=some (.func (.func f) fi ca)) (ff:FF P f) (hx:vx n env xs=some vs) (si:fi++⟨vs⟩++ca=⟨ws⟩) (hez:Ext s0 s) (hf:∀aG,(∀b o,s0.has b o→aG b=some o)→du P f ws aG V) (h:ab C fn aA ops rest Q (A n (upd dst V env) D) s):ab C fn aA ops (i::rest) Q (A n env D) s:=
 uf hC ho hw hv ff hx si ((du.use hez hf).weaken hC) (fun v' s' hr=>by obtain⟨e,h1⟩:=hr;cases e;exact h.more hC h1) (fun ch s' hr=>by cases hr.1) (fun s' hr=>by cases hr.1)
theorem Gl{aG:Nat→Option Obj}(h:∀b o,(⟨ro,rw⟩:St).has b o→aG b=some o):Sub ro aG:=fun b o hb=>h b o (.inl hb)
theorem aw.jF{v:Value}{T:TypeId}{enc:α→List Value}{ps:List α}{L:Cells}{aG:Nat→Option Obj}(h:aw v sz T enc ps L)(hL:∀x∈L,aG x.1=some x.2):bB aG v sz enc ps:=by
 obtain⟨a,b,o,cap,h1,h2,h3⟩:=h.sl (s:=⟨aG,[]⟩) fun x hx=> .inl (hL x hx)
 refine⟨a,b,o,cap,h1,?_,h2,h3⟩
 rcases h with ⟨_,g2,_⟩| ⟨b',l,aU4,g1,_,_,g4,_⟩
 ·subst g2;exact Nat.zero_le _
 rw[g1] at h1;cases h1;exact g4
end rules
section rules
variable {P:Program} {C:Class} {fn:FuncId} {aA:Option Nat} {Q:Post} {s:St} {n:Nat} {env:Env} {D:List Deferred}
variable {ops:Array Oper} {i:Nat} {rest:List Nat} {dst:Option Tmp} {ty:TypeId} {pos:String} {cY:Array Edge} {g:Option (Nat×Bool)}
variable {T:TypeId} {d:TypeDesc} {sz bE:Nat} {z:List Value} {ag:Bool}
theorem UW(hC:∀main T,C main T→Closed P main T)(ho:ops[i]?=some ⟨dst,.range T x,ty,pos,cY,g⟩) (hw:ay ops n env g=true) (tf:TF P T .string sz bE z ag) (hx:bp n env x=some (.string b))
 (h:∀r,¬s.knows r→ab C fn aA ops rest Q (A n (upd dst (.pointer (some ⟨r,0,none⟩)) env) D) ⟨s.ro,(r,.stringIter b 0)::s.rw⟩):ab C fn aA ops (i::rest) Q (A n env D) s:=by
 refine bR hC ho hw (by simp) ?_
 simp only[execOp,Instr.range,aa,a8 tf,aF hx,ae,oh]
 intro r hr
 have:=h r hr
 rw[←aX] at this
 exact this
theorem abo(hC:∀main T,C main T→Closed P main T){r:Nat}{L R:Cells}(ho:ops[i]?=some ⟨dst,.next x true,ty,pos,cY,g⟩) (hw:ay ops n env g=true) (hx:bp n env x=some (.pointer (some ⟨r,0,none⟩))) (hs:s.rw=L++(r,.stringIter b p)::R) (hp:p <b.size)
 (h:ab C fn aA ops rest Q (A n (upd dst (.tuple ⟨[.bool true,.int .i64 p,.int .i32 (Utf8.decode b p).1]⟩) env) D) ⟨s.ro,L++(r,.stringIter b (p+(Utf8.decode b p).2))::R⟩):ab C fn aA ops (i::rest) Q (A n env D) s:=by
 refine bR hC ho hw (by simp) ?_
 simp only[execOp,Instr.next,aa,aF hx]
 refine cG (o:= .stringIter b p) (.inr (by rw[hs];simp)) rfl rfl ?_
 simp only[aa,hp,if_true]
 refine ei (o:= .stringIter b (p+(Utf8.decode b p).2)) rfl hs rfl ?_
 rw[←aX] at h
 exact h
theorem abp(hC:∀main T,C main T→Closed P main T){r:Nat}{L R:Cells}(ho:ops[i]?=some ⟨dst,.next x true,ty,pos,cY,g⟩) (hw:ay ops n env g=true) (hx:bp n env x=some (.pointer (some ⟨r,0,none⟩))) (hs:s.rw=L++(r,.stringIter b p)::R) (hp:¬p <b.size)
 (h:ab C fn aA ops rest Q (A n (upd dst (.tuple ⟨[.bool false]⟩) env) D) s):ab C fn aA ops (i::rest) Q (A n env D) s:=by
 refine bR hC ho hw (by simp) ?_
 simp only[execOp,Instr.next,aa,aF hx]
 refine cG (o:= .stringIter b p) (.inr (by rw[hs];simp)) rfl rfl ?_
 simp only[aa,hp,if_false]
 rw[←aX] at h
 exact h
end rules
end Go.L
