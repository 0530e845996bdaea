/- Part 3 of the proof. -/
import Derived.Test.YtknkndglfcfhkaaGreatDoorW2
import Derived.Conc.CrowdStepC
import Derived.Conc.Own2
import Derived.Conc.TokenWalk
set_option maxRecDepth 100000
set_option linter.all false
namespace Go.L
open Go Go.Conc
open Go.ConcR (KK wgBlock WgAt stA smA rd wr)
variable {P:Program} {s cs iv:List Frame} {f fr od:Frame} {Q:Machine→Outcome→World→Trace→Prop} {ro:Nat→Option Obj} {ty:TypeId} {main:Bool} {α:Type} {rest l:List Code} {W mi id i p n off pc sz:Nat} {T:Goroutine→St→Prop} {vs ws:List Value} {x:Operand} {xs:Array Operand} {g:Goroutine} {ca args fi:Array Value} {todo:List Nat} {b:ByteArray} {z:Value} {ats at_:Array TypeId} {s':St} {o:Obj} {st sm:Int}
section
variable {ι:Type} {E:dW ι} {L:Nat→Option Obj} {K:Nat→St} {gs:Array Goroutine} {w:World} {t:Trace} {D:List (au ι)} {d0:Nat} {main:Goroutine} {sl:Option (Nat×Nat)}
 {ic n:Nat} {g:Goroutine}
def Jy(E:dW ι)(pc:Nat)(K:Nat→St)(w:World)(t:Trace):Prop:=
 (∃sn tm,w.heap[E.Ch]?=some (.chan 0 #[] true sn sn tm))∧¬(K 0).knows E.Ch∧t.act? pc=some (.close E.Ch)∧t.heard pc∧(∀a,NoRelease a t)∧w.os=E.os∧w.output=E.out
theorem IC(E:dW ι)(pc:Nat):aaH (Jy E pc) where
 grow:=fun K w t u h hu=>⟨h.1,h.2.1,by rw[act?_old (lt_of_act? h.2.2.1)];exact h.2.2.1,(heard_old (lt_of_act? h.2.2.1)).2 h.2.2.2.1,fun a=>(h.2.2.2.2.1 a).app fun op az=>hu op az a,h.2.2.2.2.2⟩
 drawn:=fun K w t d h=>h
 le:=fun K w t s h hl=>⟨h.1,by rw[aC];exact fun hk=>h.2.1 (hl.knows hk),h.2.2⟩
 own:=fun K w t s' w' es u h ht hu=>by
  obtain⟨⟨sn,tm,hc⟩,hk,ha,hh,hn,Sn⟩:=h
  have cP:=lt_size hc
  refine⟨⟨sn,tm,by rw[ht.frame _ cP fun ho=>hk (.inr ho)];exact hc⟩,?_,by rw[act?_old (lt_of_act? ha)];exact ha,(heard_old (lt_of_act? ha)).2 hh,fun a=>(hn a).app fun op az=>hu op az a,ht.os.trans Sn.1,ht.output.trans Sn.2⟩
  rw[aC]
  rintro(h'|h')
  ·rcases ht.NI _ h' with h1|h1|h1
   ·omega
   ·exact hk (.inl h1)
   exact hk (.inr h1)
  rcases ht.own _ h' with h1|h1
  ·omega
  exact hk (.inr h1)
theorem abd{r:au ι}(h1:r.cnt=0)(h4:r.c4=0)(h3:r.c3=0)(h2:r.c2=0)(hc:r≠ .closer):∃q d c,r= .leave q d c:=by
 cases r with
 |leave q d c=>exact⟨q,d,c,rfl⟩
 |closer=>exact absurd rfl hc
 |st k n=>cases k<;>simp[au.cnt,au.c4,au.c3,au.c2] at h1 h4 h3 h2
 |_=>exact absurd h1 (by simp[au.cnt])
theorem AcqAll.known(hA:AcqAll E t D ic)(hn:NoRelease (stA E.Wg) t){u:Trace}(hpc:t.size≤pc){y:MemOp}(hy:(t++u)[pc]?=some y) (hyg:y.g=ic+1) {r:au ι} (hi:D[i]?=some r) (hc:r.cur=true)
 (hp:t.g? p=some (i+1)) (hct:t.counts p):HappensBefore (t++u) p pc:=by
 obtain⟨q,h1,h2,h3,h4⟩:=hA
 obtain⟨x,hx,hxq⟩:=h4 i r hi hc
 have hq:=lt_of_act? h1
 have hqg:=h2
 obtain⟨oq,hoq,hgq⟩:=Option.map_eq_some_iff.1 h2
 have acH:HappensBefore t x q:= .single (.inr ⟨.marked hxq (.inr hx.act) h1 (fun k _ _=>hn k),hx.heard,h3⟩)
 have last:HappensBefore (t++u) q pc:=hb_po (by omega) (by rw[getElem?_append_old hq];exact hoq) hy (hgq.trans hyg.symm)
 have hle:p≤x:=Nat.le_of_not_lt fun cP=>hx.after p cP hp hct
 rcases Nat.lt_or_ge p x with cP|SF
 ·exact((hb_app u (.trans (.single (.inl ⟨cP,_,hp,hx.g⟩)) acH)).trans last)
 obtain rfl:p=x:=by omega
 exact(hb_app u acH).trans last
def agG(qc:Nat):au ι→Nat
 | .leave q _ _=>q
 |_=>qc
theorem Inv.close(h:Inv E L K gs w t D 0 (some (ic,.run .leaf,n)) main d0){main':Goroutine}(hm:∀(a a':Goroutine) (w':World),mayWake E.P a=true→(a'.status= .running∨a'.status= .finished)→(∃sn tm,w'.heap[E.Ch]?=some (.chan 0 #[] true sn sn tm))→woken E.P a a' w' main=main')
 (hg:gs[ic+1]?=some g):
 ∃lg w' u q,runT E.P (crowd gs w sl) (ic+1)=(.next (crowd lg w' sl),u)∧Lv E.P (jB (t.size+1)) L (fun j=>if j=0 then K 0 else ⟨fun _=>none,[]⟩) lg w' (t++u) q∧lg[0]?=some main'∧Deaf (t++u) 0=d0∧
  Jy E (t.size+1) (fun j=>if j=0 then K 0 else ⟨fun _=>none,[]⟩) w' (t++u)∧kO D=[]:=by
 obtain⟨hic,HR,Am,⟨gc,FY,ql⟩,Wh⟩:=h.sy.Fz
 obtain rfl:gc=g:=by rw[hg] at FY;exact(Option.some.inj FY).symm
 obtain⟨st,sm,ha,nt⟩:=h.sy.cells
 obtain⟨e1,e4,e3,e2,rfl,rfl⟩:=nt.run rfl trivial
 obtain⟨_,hs,hmw,g',bW,q,hq⟩:=ql
 obtain⟨sn,rc,tm,hc⟩:=h.sy.chan
 have ax5:=h.sy.bal _ _ _ hc
 subst ax5
 have hA:=Wh ⟨_,rfl⟩
 have cP:=(List.getElem?_eq_some_iff.1 hic).1
 have VM:∀k r,D[k]?=some r→k≠ic→∃q d c,r= .leave q d c:=fun k r hk dR=>by
  refine abd ?_ ?_ ?_ ?_ fun e=>dR (HR k (e▸hk))
  ·have:=uB au.cnt hk;omega
  ·have:=uB au.c4 hk;omega
  ·have:=uB au.c3 hk;omega
  have:=uB au.c2 hk;omega
 have gF:=bW w sn sn tm hc
 have bX:=runT_crowd_go (P:=E.P) (sl:=sl) (i:=ic+1) hg (by simpa using gF)
 have q1:MemOp.ofEvents (ic+1) gc.frame.fn gc.frame.place #[⟨.obj E.Ch,false,true⟩,⟨.obj E.Ch,true,true⟩]= #[{g:=ic+1,fn:=gc.frame.fn,pos:=gc.frame.place,act:= .access ⟨.obj E.Ch,false,true⟩},{g:=ic+1,fn:=gc.frame.fn,pos:=gc.frame.place,act:= .close E.Ch}]:=by rw[ofEvents_eq];simp[MemAct.ofEvent]
 rw[q1] at bX
 generalize hu:(#[{g:=ic+1,fn:=gc.frame.fn,pos:=gc.frame.place,act:= .access ⟨.obj E.Ch,false,true⟩},{g:=ic+1,fn:=gc.frame.fn,pos:=gc.frame.place,act:= .close E.Ch}]:Trace)=u at bX
 have MH:∀op∈u,op.g=ic+1∧(op.act= .access ⟨.obj E.Ch,false,true⟩∨op.act= .close E.Ch):=by rw[←hu];intro op az;simp at az;rcases az with rfl|rfl<;>simp
 have ZB:∀op∈u,∀x,op.act.touch?=some x→x=⟨.obj E.Ch,false,.atomic⟩:=fun op az x hx=>by
  rcases(MH op az).2 with e|e<;>rw[e] at hx
  ·simp only[MemAct.touch?,if_true,Option.some.injEq] at hx;exact hx.symm
  cases hx
 have SB:∀op∈u,∀m,op.act≠ .mark m:=fun op az m=>by rcases(MH op az).2 with e|e<;>rw[e]<;>simp
 have aHA:E.Ch <w.heap.size:=lt_size hc
 have tI:(w.heap.setIfInBounds E.Ch (.chan 0 #[] true sn sn tm))[E.Ch]?=some (.chan 0 #[] true sn sn tm):=by simp[aHA]
 have hpc:(t++u)[t.size+1]?=some {g:=ic+1,fn:=gc.frame.fn,pos:=gc.frame.place,act:= .close E.Ch}:=by rw[←hu];simp
 have hle:∀j,((fun j=>if j=0 then K 0 else ⟨fun _=>none,[]⟩) j:St).le (K j):=fun j=>by
  by_cases e:j=0
  ·subst e;exact St.le_refl _
  simp only[if_neg e];exact⟨(K j).rw,by simp,fun b o hb=>(by cases hb)⟩
 have aQS:∀x:Goroutine,(x.status= .running∨x.status= .finished)→woken E.P gc g' {w with heap:=w.heap.setIfInBounds E.Ch (.chan 0 #[] true sn sn tm)} x=x:=fun x hx=>by
  unfold Go.Conc.woken
  split
  ·exact again_running _ hx
  rfl
 have kR:∀i r,D[i]?=some r→i≠ic→jB (t.size+1) (t++u) (i+1):=fun i r hi dR=>by
  obtain⟨x,hx,fu⟩:=h.base.ok i r hi
  obtain⟨qq,d,c,rfl⟩:=VM i r hi dR
  refine⟨by rw[←hu];simp,?_⟩
  cases c with
  |false=>exact .inl ((fu.2.2.2.2 rfl).other fun op az=>by rw[(MH op az).1];omega)
  |true=>
   refine .inr fun p hp hct=>?_
   obtain⟨op,ho,hgo⟩:=Option.map_eq_some_iff.1 hp
   rcases getElem?_append_cases ho with ⟨VQ,_⟩| ⟨_,jm⟩
   ·exact hA.known (h.sy.norel _) (Nat.le_succ _) hpc rfl hi rfl (by rw[←g?_old (u:=u) VQ];exact hp) ((counts_old VQ).1 hct)
   rw[(MH op jm).1] at hgo;omega
 refine⟨_,_,u,D.map (agG q),bX,⟨?_,by simp[h.base.size],fun k x hk=>?_,fun i b hi hk=>?_,fun op az=>?_⟩,?_,?_,⟨⟨sn,tm,tI⟩,h.sy.kC 0,?_,?_,fun a=>(h.sy.norel a).app fun op az=>SB op az _,h.base.same.1,h.base.same.2⟩,?_⟩
 ·refine(h.base.fit.beside E.Ch (ic+1) h.sy.kC h.sy.lC aHA (by simp) (fun b hb _=>by simp[Ne.symm hb]) (fun op az=>(MH op az).1) fun op az x hx=>?_).le hle
  obtain rfl:=ZB op az x hx
  refine⟨rfl,fun sd p a vi hc=>h.sy.plain _ (.inr ⟨ic,_,rfl,hic,rfl⟩) p a vi (.inr (by rw[hc.1];rfl)) ?_⟩
  rcases hc.2.2.2 with h3|h3|h3
  ·exact h3
  ·cases h3
  cases h3.2.2
 ·rw[List.getElem?_map] at hk
  obtain⟨r,hr,rfl⟩:=Option.map_eq_some_iff.1 hk
  by_cases dR:k=ic
  ·subst dR
   rw[hic] at hr
   cases hr
   refine⟨g',0,by simp[h.base.size,cP],hq,by rw[fW _ _ _ SB];exact Am,by rw[←hu];simp,.inr fun p hp hct=>?_⟩
   obtain⟨op,ho,hgo⟩:=Option.map_eq_some_iff.1 hp
   rcases Nat.lt_or_ge p (t.size+1) with VQ|SF
   ·exact hb_po VQ ho hpc hgo
   have hpe:p=t.size+1:=by
    have:=lt_size ho
    rw[←hu] at this
    simp at this
    omega
   subst hpe
   obtain⟨y,hy,_⟩:=hct
   obtain⟨o',FV,lU⟩:=touch_of hy
   rw[hpc] at FV;cases FV
   cases lU
  obtain⟨x,hx,fu⟩:=h.base.ok k r hr
  have bY:=kR k r hr dR
  obtain⟨qq,d,c,rfl⟩:=VM k r hr dR
  exact⟨x,d,by rw[fZ (by omega) hx,aQS x fu.2.1.status],fu.2.1,by rw[fW _ _ _ SB];exact fu.2.2.1,bY⟩
 ·simp only[if_neg hi] at hk
  rcases hk with hk| ⟨o,ho⟩
  ·exact hk rfl
  cases ho
 ·rw[Array.size_setIfInBounds,Array.size_map]
  rcases Array.mem_append.1 az with h'|h'
  ·exact h.base.ops op h'
  rw[(MH op h').1,h.base.size];omega
 ·rw[fZ (by omega) h.main,hm _ _ _ hmw hq.status ⟨sn,tm,tI⟩]
 ·rw[fW _ _ _ SB];exact h.deaf
 ·rw[act?_of hpc]
 ·refine⟨ic+1,by simp[Trace.g?,hpc],?_⟩
  have e2:t++u=(t++ #[({g:=ic+1,fn:=gc.frame.fn,pos:=gc.frame.place,act:= .access ⟨.obj E.Ch,false,true⟩}:MemOp)])++ #[({g:=ic+1,fn:=gc.frame.fn,pos:=gc.frame.place,act:= .close E.Ch}:MemOp)]:=by rw[←hu,Array.append_assoc];rfl
  have e3:=fW t (ic+1) #[({g:=ic+1,fn:=gc.frame.fn,pos:=gc.frame.place,act:= .access ⟨.obj E.Ch,false,true⟩}:MemOp)] (by intro op az m;simp only[List.mem_toArray,List.mem_singleton] at az;subst az;simp)
  rw[e2,deaf_old (by simp)]
  unfold Deaf at e3 Am
  rw[Array.size_append] at e3
  exact e3.trans Am
 unfold kO
 rw[List.filterMap_eq_nil_iff]
 intro r hr
 obtain⟨k,hk⟩:=List.getElem?_of_mem hr
 by_cases dR:k=ic
 ·subst dR;rw[hic] at hk;cases hk;rfl
 obtain⟨qq,d,c,rfl⟩:=VM k r hk dR;rfl
end
section
variable {ι:Type} {E:dW ι} {L:Nat→Option Obj} {K:Nat→St} {gs:Array Goroutine} {w w':World} {t u:Trace} {D:List (au ι)} {pend d0:Nat} {cl:AY} {main:Goroutine} {sl:Option (Nat×Nat)}
 {i:Nat} {g g':Goroutine} {es:Array Event}
def PLt(mx:Nat):List (au ι)×AY→List (au ι)×AY→Prop:=Prod.Lex (One uX) (InvImage FD (nJ mx))
theorem PLt.wf(mx:Nat):WellFounded (PLt (ι:=ι) mx):=(Prod.lex ⟨_,One.wf uX.wf⟩ ⟨_,InvImage.wf (nJ mx) FD.wf⟩).wf
theorem Inv.other(h:Inv E L K gs w t D pend cl main d0)(hm:gL E main)(hg:gs[i+1]?=some g) (hs:g.status= .running) (Dh:D[i]?≠some (.back .leaf)) (EA:∀n,cl≠some (i,.run .leaf,n))
 (hw:(∃o,D[i]?=some (.work o .leaf))→main.status= .running):
 ∃K' lg w' u D' cl',runT E.P (crowd gs w sl) (i+1)=(.next (crowd lg w' sl),u)∧Inv E L K' lg w' (t++u) D' pend cl' main d0∧K' 0=K 0∧kO D'=kO D∧cl'.isSome=cl.isSome∧PLt E.max (D',cl') (D,cl)∧∀o,au.gE o∈D'→au.gE o∈D∨main.status= .running:=by
 have cP:i <D.length:=by have:=lt_size hg;have:=h.base.size;omega
 have hD:D[i]?=some D[i]:=List.getElem?_eq_getElem cP
 have fin:rj E L K D pend cl main d0 (crowd gs w sl) sl t (i+1)→
  ∃K' lg w' u D' cl',runT E.P (crowd gs w sl) (i+1)=(.next (crowd lg w' sl),u)∧Inv E L K' lg w' (t++u) D' pend cl' main d0∧K' 0=K 0∧kO D'=kO D∧cl'.isSome=cl.isSome∧PLt E.max (D',cl') (D,cl)∧∀o,au.gE o∈D'→au.gE o∈D∨main.status= .running:=by
  rintro⟨K',lg,w',u,D',cl',h1,h2,h3,h4,h5,h6,h7,h8⟩
  refine⟨K',lg,w',u,D',cl',h1,h2,h3,h4,?_,Prod.Lex.left _ _ h5,h8⟩
  cases hc:cl with
  |none=>rw[h6 hc]
  |some x=>have:=h7 (by rw[hc];simp);cases cl'<;>simp_all
 obtain⟨x,hx,fu⟩:=h.base.ok i _ hD
 obtain rfl:x=g:=by rw[hg] at hx;exact(Option.some.inj hx).symm
 generalize hr:D[i]=r at hD fu
 match r,hD,fu with
 | .leave q d c,hD,fu=>exact fin (h.leave hm hD hg hs)
 | .work o (.node f),hD,fu=>exact fin (h.work hm hD hg)
 | .work o .leaf,hD,fu=>exact fin (h.aa7 (hw ⟨o,hD⟩) hD hg)
 | .gE o,hD,⟨_,vy,qS,v,zs,X,Y,e,_⟩=>rw[e] at hs;cases hs
 | .back (.node f),hD,fu=>exact fin (h.back hm hD hg)
 | .back .leaf,hD,fu=>exact absurd hD Dh
 | .st k (n+1),hD,fu=>exact fin (h.at6 hm hD hg)
 | .st .r0 0,hD,fu=>exact fin (h.r0 hm hD hg)
 | .st .k1 0,hD,fu=>exact fin (h.k1 hm hD hg)
 | .st .d1 0,hD,fu=>exact fin (h.d1 hm hD hg)
 | .st .d2 0,hD,fu=>exact fin (h.d2 hm hD hg)
 | .st .d3 0,hD,fu=>exact fin (h.d3 hm hD hg)
 | .st .d4 0,hD,fu=>exact fin (h.d4 hm hD hg)
 | .closer,hD,fu=>
  have jo:=h.sy.Fz
  match cl,h,jo,EA with
  |none,h,jo,_=>exact(jo _ (List.mem_of_getElem? hD)).elim
  |some (ic,c,n),h,⟨_,hu,_,_,_⟩,EA=>
   have e:=hu i hD
   subst e
   obtain⟨K',lg,w',u,c',n',h1,h2,h3,h4⟩:=h.closer (sl:=sl) hm hg hs fun e=>EA n (by rw[e])
   exact⟨K',lg,w',u,D,_,h1,h2,h3,rfl,rfl,Prod.Lex.right _ h4,fun _ h=> .inl h⟩
theorem Inv.awake(h:Inv E L K gs w t D pend cl main d0)(hm:gL E main):∀x∈gs,Go.Conc.awake x:=by
 intro x hx
 obtain⟨j,hj,rfl⟩:=Array.mem_iff_getElem.1 hx
 have hj':gs[j]?=some gs[j]:=Array.getElem?_eq_getElem hj
 intro k
 cases j with
 |zero=>
  rw[h.main] at hj'
  rw[←Option.some.inj hj']
  rcases hm with e| ⟨m,z,rfl⟩
  ·rw[e];simp
  simp[parked]
 |succ j=>
  have cP:j <D.length:=by have:=h.base.size;omega
  have hD:D[j]?=some D[j]:=List.getElem?_eq_getElem cP
  obtain⟨y,hy,fu⟩:=h.base.ok j _ hD
  rw[hj'] at hy
  rw[Option.some.inj hy]
  by_cases hb:∃o,D[j]= .gE o
  ·obtain⟨o,e⟩:=hb
   rw[e] at fu
   obtain⟨_,vy,qS,v,zs,X,Y,rfl,_⟩:=fu
   simp[parked]
  by_cases hc:D[j]= .closer
  ·have jo:=h.sy.Fz
   match cl,jo with
   |none,jo=>
    have:=jo D[j] (List.mem_of_getElem? hD)
    rw[hc] at this
    exact this.elim
   |some (ic,c,n),⟨_,h2,_,⟨gc,FY,ql⟩,_⟩=>
    have e:=h2 j (by rw[hD,hc])
    subst e
    rw[hj',hy] at FY
    obtain rfl:=Option.some.inj FY
    by_cases aiG:c= .blk
    ·subst aiG
     obtain⟨_,vy,arY,e⟩:=ql
     rw[e];simp
    rw[CK.uW ql aiG];simp
  rcases fu.running (fun o e=>hb ⟨o,e⟩) hc with e|e<;>rw[e]<;>simp
theorem Inv.le0(h:Inv E L K gs w t D pend cl main d0){s:St}(hl:s.le (K 0)):Inv E L (fM K 0 s) gs w t D pend cl main d0:=by
 have hle:∀j,(fM K 0 s j).le (K j):=fun j=>by
  by_cases e:j=0
  ·subst e;rw[aC];exact hl
  rw[aI _ _ e];exact St.le_refl _
 refine⟨⟨h.base.fit.le hle,h.base.size,fun k r hk=>?_,fun k hk b hb=>h.base.far k hk b ((hle k).knows hb),h.base.ops,h.base.same⟩,
  ⟨fun j hj=>h.sy.kW j ((hle j).knows hj),fun j hj=>h.sy.kC j ((hle j).knows hj),h.sy.lW,h.sy.lC,h.sy.ne,h.sy.norel,h.sy.plain,h.sy.said,h.sy.cells,h.sy.C2,h.sy.chan,h.sy.bal,?_⟩,h.main,h.deaf⟩
 ·rw[aI _ _ (by omega)];exact h.base.ok k r hk
 have jo:=h.sy.Fz
 match cl,jo with
 |none,jo=>exact jo
 |some (ic,c,n),⟨h1,h2,h3,⟨gc,FY,ql⟩,h5⟩=>exact⟨h1,h2,h3,⟨gc,FY,by rw[aI _ _ (by omega)];exact ql⟩,h5⟩
def TC(E:dW ι)(L:Nat→Option Obj)(Q:Machine→Outcome→World→Trace→Prop)(pend:Nat)(b:Bool)(os:List ι)(d0:Nat)(g:Goroutine)(s:St):Prop:=
 ∀K gs w t D cl sl,cl.isSome=b→Inv E L K gs w t D pend cl g d0→kO D=os→s.le (K 0)→Ends E.P Q (crowd gs w sl) t
theorem xN{b:Bool}{os:List ι}{s:St}(hs:g.status= .running)
 (h:∀K gs w t D cl sl m,cl.isSome=b→Inv E L K gs w t D pend cl g d0→kO D=os→K 0=s→stepT E.P m=runT E.P (crowd gs w sl) 0→Ends E.P Q m t)
 (iR:b=true→pend=0∧d0=0∧(os=[]→∀pc,TL E.P (jB pc) L (Jy E pc) Q g s)):TC E L Q pend b os d0 g s:=by
 intro K gs w t D cl sl hb hI ho hle
 have key:∀μ:List (au ι)×AY,∀K gs w t sl,μ.2.isSome=b→Inv E L K gs w t μ.1 pend μ.2 g d0→kO μ.1=os→K 0=s→Ends E.P Q (crowd gs w sl) t:=by
  intro μ
  induction μ using (PLt.wf E.max).induction with
  |_ μ ih=>
   obtain⟨D,cl⟩:=μ
   intro K gs w t sl hb hI ho hK
   simp only at hb hI ho
   obtain⟨i,e9,d,T1,du,HS,bW⟩:=crowd_pick (P:=E.P) (gs:=gs) (w:=w) (sl:=sl) (hI.awake (.inl hs)) ⟨0,g,hI.main,hs⟩
   have Ao:=hI.at d
   cases i with
   |zero=>exact h K gs _ t D cl T1 _ hb Ao ho hK bW
   |succ i=>
    by_cases Fp:D[i]?=some (.back .leaf)
    ·obtain⟨n,h1,h2,h3⟩:=hI.norm Fp
     exact ih (_,cl) (Prod.Lex.left _ _ h3) _ gs w t sl hb h1 (h2.trans ho) (by rw[aI _ _ (by omega)];exact hK)
    by_cases hc:∃n,cl=some (i,.run .leaf,n)
    ·obtain⟨n,e⟩:=hc
     subst e
     obtain⟨hp,hd,hT⟩:=iR (by rw[←hb];rfl)
     subst hp
     obtain⟨lg,w',u,q,hr,hL,h0,hdd,hG,tV⟩:=Ao.close (sl:=T1) (main':=g) (fun a a' w' _ _ _=>by
      unfold Go.Conc.woken
      split
      ·exact again_running _ (.inl hs)
      rfl) du
     exact Ends.next (bW.trans hr) (hT (ho.symm.trans tV) (t.size+1) _ lg w' _ q T1 hL h0 (by simp only[if_true];rw[hK];exact St.le_refl _) (by rw[hdd];exact hd) hG)
    obtain⟨K',lg,w',u,D',cl',hr,O8,mr,JI,fT,cP,_⟩:=Ao.other (sl:=T1) (.inl hs) du HS Fp (fun n e=>hc ⟨n,e⟩) (fun _=>hs)
    exact Ends.next (bW.trans hr) (ih (D',cl') cP K' lg w' _ T1 (fT.trans hb) O8 (JI.trans ho) (mr.trans hK))
 exact key (D,cl) _ gs w t sl hb (hI.le0 hle) ho (aC _ _ _)
end
section
variable {ι:Type} {E:dW ι} {L:Nat→Option Obj} {Q:Machine→Outcome→World→Trace→Prop} {g:Goroutine} {s:St}
theorem X6(Wk:L E.Ch=none){x:Goroutine}(hx:x.status= .running)(bW:∀w,aS s w→stepG E.P true x w= .comm g #[rcase E.Ch z] true (.recv true) w #[])
 (ny:∀w,aS s w→(∀b o,L b=some o→w.heap[b]?=some o)→aS s' w) (AT:∀b,s'.knows b→L b≠none∨s.knows b)
 (hT:TL E.P eF (fun _=>none) (Calm E.os E.out) Q (Conc.served g (.tuple #[z,.bool false])) s'):TL E.P (jB pc) L (Jy E pc) Q x s:=by
 refine Nz (S2 pc) (IC E pc) hx fun K gs w t q sl m hL h0 hK hd hG hm _=>?_
 subst hK
 obtain⟨⟨sn,tm,hc⟩,hkC,apf,axs,aF9,ahE⟩:=hG
 have H6:partners (gs.setIfInBounds 0 ph) E.Ch true=[]:=partners_nil fun j y hy=>by
  rcases getElem?_stand gs _ _ _ hy with ⟨_,rfl⟩| ⟨hj,hy'⟩
  ·exact offersAt_ph _ _
  cases j with
  |zero=>exact absurd rfl hj
  |succ j=>
   have cP:j <q.length:=by have:=lt_size hy';have:=hL.size;omega
   obtain⟨y',d,hy2,hq,_⟩:=hL.ok j _ (List.getElem?_eq_getElem cP)
   rw[hy'] at hy2
   rw[Option.some.inj hy2]
   exact rN hq.status _ _
 have bX:=crowd_recv_closed (sl:=sl) h0 (by simpa using bW w (hL.fit.jP 0)) hc H6
 have e0:MemOp.ofEvents 0 x.frame.fn x.frame.place #[]= #[]:=rfl
 rw[e0,Array.empty_append] at bX
 generalize hu:(#[{g:=0,fn:=g.frame.fn,pos:=g.frame.place,act:= .recvClosed E.Ch}]:Trace)=u at bX
 have MH:∀op∈u,op.g=0∧op.act= .recvClosed E.Ch:=by rw[←hu];intro op az;simp at az;subst az;exact⟨rfl,rfl⟩
 have ZB:∀op∈u,op.act.touch?=none:=fun op az=>by rw[(MH op az).2];rfl
 have SB:∀op∈u,∀m,op.act≠ .mark m:=fun op az m=>by rw[(MH op az).2];simp
 have hr:(t++u)[t.size]?=some {g:=0,fn:=g.frame.fn,pos:=g.frame.place,act:= .recvClosed E.Ch}:=by rw[←hu];simp
 have arP:=lt_of_act? apf
 have acH:HappensBefore (t++u) pc t.size:= .single (.inr ⟨.closed (c:=E.Ch) (by rw[act?_old arP];exact apf) (by rw[act?_of hr]),(heard_old arP).2 axs,⟨0,by simp[Trace.g?,hr],by rw[deaf_old (Nat.le_refl _)];exact hd⟩⟩)
 have dq:∀i n,q[i]?=some n→eF (t++u) (i+1):=fun i n hi=>by
  obtain⟨y,d,hy,hq,hdd,hk⟩:=hL.ok i n hi
  rcases hk.2 with hk|hk
  ·exact hk.quiet ZB
  intro p hp hct
  obtain⟨op,ho,hgo⟩:=Option.map_eq_some_iff.1 hp
  rcases getElem?_append_cases ho with ⟨VQ,_⟩| ⟨_,jm⟩
  ·exact⟨t.size,by simp[Trace.g?,hr],(hb_app u (hk p (by rw[←g?_old (u:=u) VQ];exact hp) ((counts_old VQ).1 hct))).trans acH⟩
  rw[(MH op jm).1] at hgo;omega
 have mE:=hL.fit.quiet (u:=u) (w':=w) E.Ch (fun j=>by
  by_cases e:j=0
  ·subst e;exact hkC
  exact hL.none j _ e) Wk (Nat.le_refl _) (fun _ _ _=>rfl) ZB
 refine Ends.next (hm.trans bX) (hT (fM K 0 s') _ w _ q sl ⟨?_,by simp[hL.size],fun i n hi=>?_,fun i b hi hk=>?_,fun op az=>?_⟩ ?_ (by rw[aC];exact St.le_refl _) (by rw[fW _ _ _ SB];exact hd) ⟨fun a=>(aF9 a).app fun op az=>SB op az _,ahE⟩)
 ·refine mE.alone (i:=0) (fun j hj b=>hL.none j b hj) s' (ny w (hL.fit.jP 0) hL.fit.E6) AT fun b hb p y hy Qb hyb=>?_
  obtain⟨op,ho,hyo⟩:=touch_of hy
  have cP:op.g <gs.size:=by
   rcases Array.mem_append.1 (mem_of_getElem? ho) with h'|h'
   ·exact hL.ops op h'
   rw[(MH op h').1,hL.size];omega
  cases hgo:op.g with
  |zero=>have:=knows_own ho;rwa[hgo] at this
  |succ k=>
   have hk:k <q.length:=by have:=hL.size;omega
   obtain⟨j,hj,mH⟩:=dq k _ (List.getElem?_eq_getElem hk) p (by simp[Trace.g?,ho,hgo]) ⟨y,by simpa [touchAt] using hy,by cases hl:y.loc<;>simp_all[blk,Loc.isMemory],.inl (by rw[Qb];simp)⟩
   obtain⟨z',E9,hzg⟩:=Option.map_eq_some_iff.1 hj
   exact⟨j,z',E9,hzg,.inr mH⟩
 ·obtain⟨y,d,hy,hq,hdd,hk⟩:=hL.ok i n hi
  exact⟨y,d,by rw[Array.getElem?_setIfInBounds_ne (by omega)];exact hy,hq,by rw[fW _ _ _ SB];exact hdd,dq i n hi⟩
 ·rw[aI _ _ hi] at hk;exact hL.none i b hi hk
 ·rw[Array.size_setIfInBounds]
  rcases Array.mem_append.1 az with h'|h'
  ·exact hL.ops op h'
  rw[(MH op h').1,hL.size];omega
 have:0 <gs.size:=by rw[hL.size];omega
 simp[this,finishComm_recv,recvd]
end
section
variable {ι:Type} {E:dW ι} {L:Nat→Option Obj} {K:Nat→St} {gs:Array Goroutine} {w w':World} {t:Trace} {D:List (au ι)} {pend d0:Nat} {cl:AY} {main:Goroutine} {sl:Option (Nat×Nat)}
 {i:Nat} {Q:Machine→Outcome→World→Trace→Prop} {g:Goroutine} {s:St}
theorem setChan_at(w:World)(d c:Nat)(h:c <w.heap.size)(sn rc:Nat)(tm:Bool):
 ((w.at d).setChan c 0 #[] false sn rc tm).heap[c]?=some (.chan 0 #[] false sn rc tm)∧((w.at d).setChan c 0 #[] false sn rc tm).heap.size=w.heap.size∧
 ∀b,b≠c→((w.at d).setChan c 0 #[] false sn rc tm).heap[b]?=w.heap[b]?:=by
 refine⟨by simp[World.setChan,World.at,h],by simp[World.setChan,World.at],fun b hb=>by simp[World.setChan,World.at,Ne.symm hb]⟩
theorem Inv.alive(h:Inv E L K gs w t D 0 cl main d0)(iR:cl≠none)(hn:∀o,au.gE o∉D):∃(i:Nat) (x:Goroutine),gs[i]?=some x∧x.status= .running:=by
 by_cases dq:∀r∈D,r.left=true∨r= .closer
 ·have jo:=h.sy.Fz
  obtain⟨st,sm,_,nt⟩:=h.sy.cells
  match cl,jo,nt,iR with
  |some (ic,c,n),⟨_,_,_,⟨gc,FY,ql⟩,_⟩,nt,_=>
   refine⟨_,gc,FY,CK.uW ql fun e=>?_⟩
   subst e
   have z:∀(f:au ι→Nat),(∀q d c,f (.leave q d c)=0)→f .closer=0→fy f D=0:=fun f h1 h2=>by
    unfold fy
    rw[List.sum_eq_zero_iff_forall_eq_nat]
    intro x hx
    obtain⟨r,hr,rfl⟩:=List.mem_map.1 hx
    rcases dq r hr with e|rfl
    ·cases r<;>first|exact h1 _ _ _|cases e
    exact h2
   have z1:=z au.cnt (fun _ _ _=>rfl) rfl
   have z4:=z au.c4 (fun _ _ _=>rfl) rfl
   have z3:=z au.c3 (fun _ _ _=>rfl) rfl
   have z2:=z au.c2 (fun _ _ _=>rfl) rfl
   rw[z1,z4,z3,z2] at nt
   simp only[Option.map_some] at nt
   generalize ho:some CK.blk=o at nt
   generalize h0:0+0=k at nt
   cases nt with
   |reg _ h2=>omega
   |sema _ h2=>cases ho;exact h2 rfl
   |over h1=>cases ho;exact h1.elim
   |_=>cases ho
 obtain⟨r,lV⟩:=Classical.not_forall.1 dq
 obtain⟨hr,JU⟩:=Classical.not_imp.1 lV
 have h1:¬r.left=true:=fun e=>JU (.inl e)
 have h2:r≠ .closer:=fun e=>JU (.inr e)
 obtain⟨k,hk⟩:=List.getElem?_of_mem hr
 obtain⟨x,hx,fu⟩:=h.base.ok k r hk
 refine⟨_,x,hx,?_⟩
 cases r with
 |leave q d c=>exact absurd rfl h1
 |work o tr=>exact pg.running (fun _ _ y=>y.1) fu.2
 |gE o=>exact absurd hr (hn o)
 |back tr=>exact pg.running (fun _ _ y=>dW.pure.running (fun _ z=>z.1) y) fu.2
 |st k n=>exact Pure.running (WK.running k) fu.2.2.1
 |closer=>exact absurd rfl h2
theorem Inv.aa8(h:Inv E L K gs w t D pend cl (parked g #[rcase E.Ch z] (.recv true)) 0)(iR:cl≠none){o:ι}{gw:Goroutine}(hi:D[i]?=some (.work o .leaf)) (hg:gs[i+1]?=some gw):
 ∃K' lg w' u D' v X a b,runT E.P (crowd gs w sl) (i+1)=(.next (crowd lg w' sl),u)∧Inv E L K' lg w' (t++u) D' pend cl (Conc.served g (.tuple #[v,.bool true])) 0∧K' 0=⟨(K 0).ro,X++(K 0).rw⟩∧
  E.XI o v X∧kO D=a++o::b∧kO D'=a++b:=by
 obtain⟨e9,du,fu⟩:=h.base.ok i _ hi
 obtain rfl:e9=gw:=by rw[hg] at du;exact(Option.some.inj du).symm
 obtain⟨hd,hs,qS,v,zs,X,Y,hXY,oR,bW,tr,ir,hle,vg⟩:=fu
 obtain⟨sn,rc,tm,hc⟩:=h.sy.chan
 have uI:=h.base.size
 have aPW:partners (gs.setIfInBounds (i+1) ph) E.Ch false=[(0,0)]:=by
  have h0:(gs.setIfInBounds (i+1) ph)[0]?=some (parked g #[rcase E.Ch z] (.recv true)):=stand_get (by omega) h.main
  rw[partners_one h0 fun k x hk hx=>?_]
  ·rw[offersAt_parked_recv];simp
  rcases getElem?_stand gs _ _ _ hx with ⟨_,rfl⟩| ⟨_,lU⟩
  ·exact offersAt_ph _ _
  cases k with
  |zero=>exact absurd rfl hk
  |succ k=>
   rcases h.offers lU with ⟨o',g',v',zs',_,rfl⟩|hn
   ·exact offersAt_parked_send' _ _ _ _ _ _
   exact hn _ _
 have bX:=crowd_send_meets (sl:=sl) hg (by simpa using bW w (h.base.fit.jP _)) hc (by omega) h.main aPW
 have e0:MemOp.ofEvents (i+1) e9.frame.fn e9.frame.place #[]= #[]:=rfl
 rw[e0,Array.empty_append] at bX
 obtain⟨a,b,ha,hb⟩:=CV (r':=au.back tr) rfl hi (o:=o) rfl
 have hwc:=setChan_at w w.drawn E.Ch (lt_size hc) (sn+1) (rc+1) tm
 refine⟨_,_,_,_,_,v,X,a,b,bX,h.meet iR hi (.inl rfl) hd hXY hle vg (by simp) ?_ ?_ (fun k h1 h2=>?_) hc hwc.1 hwc.2.1 hwc.2.2 ⟨rfl,rfl⟩ ⟨rfl,rfl⟩ ⟨rfl,rfl⟩ ⟨rfl,rfl⟩ ⟨rfl,rfl⟩,aC _ _ _,oR,ha,hb⟩
 ·rw[Array.getElem?_setIfInBounds_ne (by omega),Array.getElem?_setIfInBounds_self_of_lt (by omega)]
  rw[finishComm_recv];rfl
 ·rw[Array.getElem?_setIfInBounds_self_of_lt (by have:=lt_size hg;simpa using this)]
  rw[finishComm_send]
 rw[Array.getElem?_setIfInBounds_ne (Ne.symm h2),Array.getElem?_setIfInBounds_ne (Ne.symm h1)]
theorem Rm{os:List ι}
 (MJ:∀a o b v X,os=a++o::b→E.XI o v X→TC E L Q 0 true (a++b) 0 (Conc.served g (.tuple #[v,.bool true])) ⟨s.ro,X++s.rw⟩)
 (qN:os=[]→∀pc,TL E.P (jB pc) L (Jy E pc) Q {parked g #[rcase E.Ch z] (.recv true) with status:= .running} s):
 ∀(μ:List (au ι)×AY) K gs w t sl,μ.2.isSome=true→Inv E L K gs w t μ.1 0 μ.2 (parked g #[rcase E.Ch z] (.recv true)) 0→kO μ.1=os→K 0=s→(∀o,au.gE o∉μ.1)→Ends E.P Q (crowd gs w sl) t:=by
 intro μ
 induction μ using (PLt.wf E.max).induction with
 |_ μ ih=>
  obtain⟨D,cl⟩:=μ
  intro K gs w t sl hb hI ho hK hn
  simp only at hb hI ho hn
  have iR:cl≠none:=fun e=>by rw[e] at hb;cases hb
  have SA:gL E (parked g #[rcase E.Ch z] (.recv true)):= .inr ⟨g,z,rfl⟩
  obtain⟨i,e9,d,T1,du,HS,bW⟩:=crowd_pick (P:=E.P) (gs:=gs) (w:=w) (sl:=sl) (hI.awake SA) (hI.alive iR hn)
  have Ao:=hI.at d
  cases i with
  |zero=>rw[hI.main] at du;rw[←Option.some.inj du] at HS;cases HS
  |succ i=>
   by_cases Fp:D[i]?=some (.back .leaf)
   ·obtain⟨n,h1,h2,h3⟩:=hI.norm Fp
    refine ih (_,cl) (Prod.Lex.left _ _ h3) _ gs w t sl hb h1 (h2.trans ho) (by rw[aI _ _ (by omega)];exact hK) fun o hm=>?_
    rcases List.mem_or_eq_of_mem_set hm with h'|h'
    ·exact hn o h'
    cases h'
   by_cases hc:∃n,cl=some (i,.run .leaf,n)
   ·obtain⟨n,e⟩:=hc
    subst e
    obtain⟨lg,w',u,q,hr,hL,h0,hdd,hG,tV⟩:=Ao.close (sl:=T1) (main':={parked g #[rcase E.Ch z] (.recv true) with status:= .running}) (fun a a' w' hmw ny ⟨sn,tm,tI⟩=>by
     have:(mayWake E.P a&&a'.status != .blocked&&a'.status != .waiting)=true:=by rcases ny with e|e<;>simp[hmw,e]
     unfold Go.Conc.woken
     rw[if_pos this]
     exact again_recv_closed tI) du
    exact Ends.next (bW.trans hr) (qN (ho.symm.trans tV) (t.size+1) _ lg w' _ q T1 hL h0 (by simp only[if_true];rw[hK];exact St.le_refl _) (by rw[hdd]) hG)
   by_cases Ff:∃o,D[i]?=some (.work o .leaf)
   ·obtain⟨o,hi⟩:=Ff
    obtain⟨K',lg,w',u,D',v,X,a,b,hr,O8,mr,oR,ha,mH⟩:=Ao.aa8 (sl:=T1) iR hi du
    refine Ends.next (bW.trans hr) (MJ a o b v X (ho.symm.trans ha) oR K' lg w' _ D' cl T1 hb O8 mH ?_)
    rw[mr,hK];exact St.le_refl _
   obtain⟨K',lg,w',u,D',cl',hr,O8,mr,JI,fT,cP,hsb⟩:=Ao.other (sl:=T1) SA du HS Fp (fun n e=>hc ⟨n,e⟩) (fun hx=>absurd hx Ff)
   refine Ends.next (bW.trans hr) (ih (D',cl') cP K' lg w' _ T1 (fT.trans hb) O8 (JI.trans ho) (mr.trans hK) fun o hm=>?_)
   rcases hsb o hm with h'|h'
   ·exact hn o h'
   cases h'
theorem Yd{os:List ι}(hs:g.status= .running)(bW:∀w,aS s w→stepG E.P true g w= .comm g #[rcase E.Ch z] true (.recv true) w #[])
 (MJ:∀a o b v X,os=a++o::b→E.XI o v X→TC E L Q 0 true (a++b) 0 (Conc.served g (.tuple #[v,.bool true])) ⟨s.ro,X++s.rw⟩)
 (qN:os=[]→∀pc,TL E.P (jB pc) L (Jy E pc) Q g s∧TL E.P (jB pc) L (Jy E pc) Q {parked g #[rcase E.Ch z] (.recv true) with status:= .running} s):TC E L Q 0 true os 0 g s:=by
 refine xN hs (fun K gs w t D cl sl m hb hI ho hK hm=>?_) fun _=>⟨rfl,rfl,fun h pc=>(qN h pc).1⟩
 have iR:cl≠none:=fun e=>by rw[e] at hb;cases hb
 obtain⟨sn,rc,tm,hc⟩:=hI.sy.chan
 have hgo:=bW w (hK▸hI.base.fit.jP 0)
 have e0:MemOp.ofEvents 0 g.frame.fn g.frame.place #[]= #[]:=rfl
 by_cases dR:partners (gs.setIfInBounds 0 ph) E.Ch true=[]
 ·have bX:=crowd_waits (sl:=sl) hI.main (by simpa using hgo) (fun cc ve=>by
   simp only[List.mem_toArray,List.mem_singleton] at ve
   subst ve
   exact ways_recv_none hc dR)
  rw[e0] at bX
  have uI:=hI.base.size
  refine Ends.next (hm.trans bX) (Rm MJ (fun h pc=>(qN h pc).2) (D,cl) K _ w _ sl hb ⟨⟨?_,by simp[uI],fun k r hk=>?_,fun k hk=>hI.base.far k (by simpa using hk),fun op az=>?_,hI.base.same⟩,?_,?_,?_⟩ ho hK fun o hm=>?_)
  ·rw[Array.append_empty];exact hI.base.fit
  ·obtain⟨x,hx,fu⟩:=hI.base.ok k r hk
   exact⟨x,by rw[Array.getElem?_setIfInBounds_ne (by omega)];exact hx,by rw[Array.append_empty];exact fu⟩
  ·rw[Array.append_empty] at az;rw[Array.size_setIfInBounds];exact hI.base.ops op az
  ·rw[Array.append_empty]
   refine⟨hI.sy.kW,hI.sy.kC,hI.sy.lW,hI.sy.lC,hI.sy.ne,hI.sy.norel,hI.sy.plain,hI.sy.said,hI.sy.cells,hI.sy.C2,hI.sy.chan,hI.sy.bal,?_⟩
   have jo:=hI.sy.Fz
   match cl,jo with
   |none,jo=>exact jo
   |some (ic,c,n),⟨h1,h2,h3,⟨gc,FY,ql⟩,h5⟩=>exact⟨h1,h2,h3,⟨gc,by rw[Array.getElem?_setIfInBounds_ne (by omega)];exact FY,ql⟩,h5⟩
  ·rw[Array.getElem?_setIfInBounds_self_of_lt (by omega)]
  ·rw[Array.append_empty];exact hI.deaf
  obtain⟨k,hk⟩:=List.getElem?_of_mem hm
  obtain⟨x,hx,_,vy,qS,v,zs,X,Y,rfl,_⟩:=hI.base.ok k _ hk
  have:((k+1,0):Nat×Nat)∈partners (gs.setIfInBounds 0 ph) E.Ch true:=mem_partners.2 ⟨_,stand_get (by omega) hx,by rw[offersAt_parked_send];simp⟩
  rw[dR] at this;cases this
 obtain⟨j,gj,vj,zj,shj,d,hj0,hj,bX⟩:=crowd_recv_meets_some (sl:=sl) hI.main (by simpa using hgo) hc dR fun j k Qg=>by
  obtain⟨x,hx,hk⟩:=mem_partners.1 Qg
  rcases getElem?_stand gs _ _ _ hx with ⟨_,rfl⟩| ⟨hj0,lU⟩
  ·rw[offersAt_ph] at hk;cases hk
  cases j with
  |zero=>exact absurd rfl hj0
  |succ j=>
   rcases hI.offers lU with ⟨o',g',v',zs',_,rfl⟩|hn
   ·rw[offersAt_parked_send] at hk
    simp at hk
    exact⟨hk,by omega,_,_,_,_,lU⟩
   rw[hn] at hk;cases hk
 rw[e0,Array.empty_append] at bX
 cases j with
 |zero=>exact absurd rfl hj0
 |succ i=>
  rcases hI.offers hj with ⟨o,qS,v,zs,hi,e⟩|hn
  ·obtain⟨x,hx,Am,vy,aHE,v',zs',X,Y,e',hXY,oR,_,tr,ir,hle,vg⟩:=hI.base.ok i _ hi
   obtain rfl:x=parked gj #[scase E.Ch vj zj] shj:=by rw[hj] at hx;exact(Option.some.inj hx).symm
   have hv:vj=v':=by
    have:=congrArg Goroutine.offers e'
    simp only[parked,scase,Option.some.injEq,Prod.mk.injEq,Array.mk.injEq,List.cons.injEq,CommCase.mk.injEq] at this
    exact this.1.1.2.1
   have hsv:gj.finishComm E.P #[scase E.Ch vj zj] shj 0 undef false=Conc.served aHE undef:=by
    have h1:shj= .send:=by
     have:=congrArg Goroutine.offers e'
     simp only[parked,Option.some.injEq,Prod.mk.injEq] at this
     exact this.2
    subst h1
    rw[finishComm_send]
    have h2:=congrArg (fun x:Goroutine=>Conc.served x undef) e'
    exact h2
   subst hv
   obtain⟨a,b,ha,mH⟩:=CV (r':=au.back tr) rfl hi (o:=o) rfl
   have hwc:=setChan_at w d E.Ch (lt_size hc) (sn+1) (rc+1) tm
   have uI:=hI.base.size
   refine Ends.next (hm.trans bX) (MJ a o b vj X (ho.symm.trans ha) oR _ _ _ _ (D.set i (.back tr)) cl sl hb
    (hI.meet iR hi (.inr rfl) Am hXY hle vg (by simp) ?_ ?_ (fun k h1 h2=>?_) hc hwc.1 hwc.2.1 hwc.2.2 ⟨rfl,rfl⟩ ⟨rfl,rfl⟩ ⟨rfl,rfl⟩ ⟨rfl,rfl⟩ ⟨rfl,rfl⟩) mH ?_)
   ·rw[Array.getElem?_setIfInBounds_self_of_lt (by simp;omega),finishComm_recv];rfl
   ·rw[Array.getElem?_setIfInBounds_ne (by omega),Array.getElem?_setIfInBounds_self_of_lt (lt_size hj),hsv]
   ·rw[Array.getElem?_setIfInBounds_ne (Ne.symm h1),Array.getElem?_setIfInBounds_ne (Ne.symm h2)]
   rw[aC,hK];exact St.le_refl _
  have:(0:Nat)∈offersAt (parked gj #[scase E.Ch vj zj] shj) E.Ch true:=by rw[offersAt_parked_send];simp
  rw[hn] at this;cases this
end
section
variable {ι:Type} {E:dW ι} {L:Nat→Option Obj} {K:Nat→St} {gs:Array Goroutine} {w w':World} {t:Trace} {D:List (au ι)} {pend d0:Nat} {cl:AY} {sl:Option (Nat×Nat)}
 {Q:Machine→Outcome→World→Trace→Prop} {g g':Goroutine} {s:St} {es:Array Event}
theorem Inv.go0(h:Inv E L K gs w t D pend cl g d0)(hgo:stepG E.P true g w= .go g' w' es)(Sn:XJ w w')(bH:¬s'.knows E.Wg)(oS:¬s'.knows E.Ch)(vM:w'.heap[E.Ch]?=w.heap[E.Ch]?)
 (mE:Fit L (fM K 0 s') w' (t++MemOp.ofEvents 0 g.frame.fn g.frame.place es))
 (k8:∀op∈MemOp.ofEvents 0 g.frame.fn g.frame.place es,∀x,op.act.touch?=some x→E.At x→x.kind≠ .plain∧(x.kind= .said→cl=none))
 (iA:∀op∈MemOp.ofEvents 0 g.frame.fn g.frame.place es,∀a,op.act≠ .mark (.release a)) 
 (n5:∀cl',AE cl cl'→∃st sm,WgAt E.ty E.Wg w' st sm∧Md E.max (fy au.cnt D+mi) (fy au.c4 D) (fy au.c3 D) (fy au.c2 D) (cl'.map (·.2.1)) st sm) (Sz:fy au.cnt D+mi≤E.max):
 ∃lg u cl',runT E.P (crowd gs w sl) 0=(.next (crowd lg w' sl),u)∧Inv E L (fM K 0 s') lg w' (t++u) D mi cl' g' (deafBehind d0 es)∧cl'.isSome=cl.isSome:=by
 have MH:∀op∈MemOp.ofEvents 0 g.frame.fn g.frame.place es,op.g=0:=fun op az=>Go.ConcR.g_of_ofEvents op az
 have bX:=runT_crowd_go (P:=E.P) (sl:=sl) (i:=0) h.main (by simpa using hgo)
 have hdo:Deaf (t++MemOp.ofEvents 0 g.frame.fn g.frame.place es) 0=deafBehind d0 es:=by rw[Deaf_own,h.deaf]
 generalize MemOp.ofEvents 0 g.frame.fn g.frame.place es=u at*
 obtain⟨sn,rc,tm,hc⟩:=h.sy.chan
 have tI:w'.heap[E.Ch]?=some (.chan 0 #[] false sn rc tm):=by rw[vM];exact hc
 have dR:∀k,∀op∈u,op.g≠k+1:=fun k op az=>by rw[MH op az];omega
 have JN:∀b,¬s'.knows b→(∀j,¬(K j).knows b)→∀j,¬(fM K 0 s' j).knows b:=fun b h1 h2 j=>by
  by_cases e:j=0
  ·subst e;rw[aC];exact h1
  rw[aI _ _ e];exact h2 j
 obtain⟨cl',Ff,jo⟩:∃cl',AE cl cl'∧alE E (fM K 0 s') ((gs.map (woken E.P g g' w')).setIfInBounds 0 g') (t++u) D cl':=by
  have jo:=h.sy.Fz
  match cl,jo with
  |none,jo=>exact⟨none,.same _,jo⟩
  |some (ic,c,n),⟨h1,h2,h3,⟨gc,FY,ql⟩,h5⟩=>
   obtain⟨c',n',hw,aye,_,hdc⟩:=CK.tries (ic:=ic) ql g g' w'
   refine⟨some (ic,c',n'),hw,h1,h2,by rw[gR _ _ (dR ic),hdc];exact h3,⟨_,fZ (by omega) FY,by rw[aI _ _ (by omega)];exact aye⟩,fun⟨tr,e⟩=>?_⟩
   subst e
   cases hw with
   |same=>
    obtain⟨q,a1,a2,a3,a4⟩:=h5 ⟨tr,rfl⟩
    have hq:=lt_of_act? a1
    exact⟨q,by rw[act?_old hq];exact a1,by rw[g?_old hq];exact a2,(heard_old hq).2 a3,fun i r hi hcu=>let ⟨p,hp,ZC⟩:=a4 i r hi hcu;⟨p,RelBy.other hp (dR i),ZC⟩⟩
 refine⟨_,u,cl',bX,⟨⟨mE,by simp[h.base.size],fun k r hk=>?_,fun k hk b hb=>?_,fun op az=>?_,⟨Sn.1.trans h.base.same.1,Sn.2.trans h.base.same.2⟩⟩,
  ⟨JN _ bH h.sy.kW,JN _ oS h.sy.kC,h.sy.lW,h.sy.lC,h.sy.ne,fun a=>(h.sy.norel a).app fun op az=>iA op az a,fun j hj p x hx hb hk=>?_,?_,n5 cl' Ff,Sz,⟨sn,rc,tm,tI⟩,fun a b c hx=>h.sy.bal a b c (by rw[←vM];exact hx),jo⟩,?_,hdo⟩,by cases Ff<;>rfl⟩
 ·obtain⟨x,hx,fu⟩:=h.base.ok k r hk
  rw[aI _ _ (by omega)]
  have acb:=fu.other (dR k)
  by_cases Ud:r= .closer
  ·subst Ud;exact⟨_,fZ (by omega) hx,trivial⟩
  exact⟨x,by rw[fZ (by omega) hx,fu.woken Ud fun _=>⟨sn,rc,tm,tI⟩],acb⟩
 ·rw[Array.size_setIfInBounds,Array.size_map] at hk
  have:=h.base.size
  rw[aI _ _ (by omega)] at hb
  exact h.base.far k hk b hb
 ·rw[Array.size_setIfInBounds,Array.size_map]
  rcases Array.mem_append.1 az with h'|h'
  ·exact h.base.ops op h'
  rw[MH op h',h.base.size];omega
 ·rcases bJ hx with ⟨_,lU⟩| ⟨_,op,T9,_,yL⟩
  ·exact(h.sy.plain j hj p x lU hb hk).app u
  exact absurd hk (k8 op T9 x yL hb).1
 ·have P9:=h.sy.said
  match cl,cl',Ff,P9,k8 with
  |none,_,.same _,P9,_=>
   intro p x hx hb hk
   rcases bJ hx with ⟨_,lU⟩| ⟨hp,op,T9,az,yL⟩
   ·exact(P9 p x lU hb hk).app u
   exact Db MH hp az
  |some (ic,c,n),_,.same _,P9,k8=>
   intro he p x hx hb hk
   rcases bJ hx with ⟨_,lU⟩| ⟨_,op,T9,_,yL⟩
   ·exact(P9 he p x lU hb hk).app u
   exact absurd ((k8 op T9 x yL (.inl hb)).2 hk) (by simp)
  |_,_,.up ic,_,_=>exact fun he=>he.elim
 have:=h.base.size
 rw[Array.getElem?_setIfInBounds_self_of_lt (by simp;omega)]
theorem Inv.I9(h:Inv E L K gs w t D pend cl g d0)(hw:w'.heap[E.Wg]?=w.heap[E.Wg]?):∀cl',AE cl cl'→∃st sm,WgAt E.ty E.Wg w' st sm∧Md E.max (fy au.cnt D+pend) (fy au.c4 D) (fy au.c3 D) (fy au.c2 D) (cl'.map (·.2.1)) st sm:=by
 intro cl' Ff
 obtain⟨st,sm,ha,hm⟩:=h.sy.cells
 exact⟨st,sm,by unfold WgAt;rw[hw];exact ha,hm.as3 Ff⟩
def TM(E:dW ι)(L:Nat→Option Obj)(Q:Machine→Outcome→World→Trace→Prop)(pend:Nat)(b:Bool)(os:List ι)(d0:Nat)(g:Goroutine)(s:St):Prop:=
 TC E L Q pend b os d0 g s∧(b=true→os=[]→∀pc,TL E.P (jB pc) L (Jy E pc) Q g s)
theorem TC.mono{b:Bool}{os:List ι}(hl:s.le s')(h:TC E L Q pend b os d0 g s):TC E L Q pend b os d0 g s':=
 fun K gs w t D cl sl hb hI ho hle=>h K gs w t D cl sl hb hI ho (hl.trans hle)
theorem fg(b:Bool)(os:List ι)(hb:b=true→pend=0):Closed E.P true (TM E L Q pend b os 0) where
 step:=fun g s hs h=>by
  have hL:b=true→os=[]→∀pc,TL E.P (jB pc) L (Jy E pc) Q g s:=fun e ho pc=>
   (KX (S2 pc) (IC E pc) Q).step g s hs fun w ha=>let ⟨g',w',es,s',h1,h2,h3,h4⟩:=h w ha;⟨g',w',es,s',h1,h2,h3,h4.2 e ho pc⟩
  refine⟨xN hs (fun K gs w t D cl sl m iR hI ho hK hm=>?_) fun e=>⟨hb e,rfl,fun ho pc=>hL e ho pc⟩,hL⟩
  subst hK
  obtain⟨g',w',es,s',hgo,_,ht,hT,_⟩:=h w (hI.base.fit.jP 0)
  obtain⟨k1,k2,k3,k4,k5,k6⟩:=hI.sy.Bj ht g.frame.fn g.frame.place
  obtain⟨lg,u,cl',hr,Ao,Wb⟩:=hI.go0 (sl:=sl) hgo ⟨ht.os,ht.output⟩ k1 k2 k4 (hI.base.fit.own ht _ _) (fun op az x hx sO=>absurd sO (k5 op az x hx)) k6 (hI.I9 k3) hI.sy.C2
  rw[ht.deaf] at Ao
  exact Ends.next (hm.trans hr) (hT _ lg w' _ D cl' sl (Wb.trans iR) Ao ho (by rw[aC];exact St.le_refl _))
 mono:=fun g s s' hl h=>⟨h.1.mono hl,fun e ho pc=>(h.2 e ho pc).mono hl⟩
theorem Md.opened{mx a b c:Nat}{o:Option CK}(h:Md mx n a b c o st sm)(ho:o=none):st=(n:Int)*KK∧sm=0:=by
 cases h with
 |start=>exact⟨rfl,rfl⟩
 |_=>cases ho
theorem FL{b:Bool}{os:List ι}{d':Nat}(hs:g.status= .running)(hb:b=false)
 (h:∀w st sm,WgAt E.ty E.Wg w st sm→(b=false→st=((os.length+pend:Nat):Int)*KK∧sm=0)→os.length+pend≤E.max→∃w',stepG E.P true g w= .go g' w' es∧eI E w w'∧WgAt E.ty E.Wg w' (((os.length+mi:Nat):Int)*KK) 0)
 (Aj:∀e∈es,iN E e)(hd:deafBehind d0 es=d')(hp:os.length+pend≤E.max→os.length+mi≤E.max)(hT:TC E L Q mi b os d' g' s):TC E L Q pend b os d0 g s:=by
 subst hb
 refine xN hs (fun K gs w t D cl sl m iR hI ho hK hm=>?_) fun e=>(by cases e)
 subst hK
 have hcn:cl=none:=by cases cl<;>simp_all
 subst hcn
 have jo:=hI.sy.Fz
 have axY:∀D:List (au ι),(∀r∈D,r.early)→fy au.cnt D=(kO D).length∧fy au.c4 D=0∧fy au.c3 D=0∧fy au.c2 D=0:=by
  intro D
  induction D with
  |nil=>intro _;exact⟨rfl,rfl,rfl,rfl⟩
  |cons r D ih=>
   intro hr
   obtain⟨i1,i4,i3,i2⟩:=ih fun x hx=>hr x (by simp[hx])
   have:=hr r (by simp)
   simp only[fy,List.map_cons,List.sum_cons,kO,List.filterMap_cons] at*
   cases r<;>first|exact this.elim| (simp[au.cnt,au.c4,au.c3,au.c2,au.YM,i1,i4,i3,i2];try omega)
 obtain⟨c1,c4,c3,c2⟩:=axY D jo
 rw[ho] at c1
 obtain⟨st,sm,ha,nt⟩:=hI.sy.cells
 have Kq:=hI.sy.C2
 rw[c1] at Kq
 have bW:st=((os.length+pend:Nat):Int)*KK∧sm=0:=by
  rw[c1] at nt
  exact nt.opened rfl
 obtain⟨w',hgo,htu,vi⟩:=h w st sm ha (fun _=>bW) Kq
 have aFX:=iN.ops Aj 0 g.frame.fn g.frame.place
 obtain⟨lg,u,cl',hr,Ao,Wb⟩:=hI.go0 (sl:=sl) (s':=K 0) (mi:=mi) hgo htu.same (hI.sy.kW 0) (hI.sy.kC 0) (htu.block _ (Ne.symm hI.sy.ne)) (by rw[mg];exact hI.sy.BV hI.base.fit (.inl rfl) htu Aj _ _)
  (fun op az x hx _=>by rw[((aFX op az).2.2 x hx).2];exact⟨by simp,by simp⟩) (fun op az=>(aFX op az).2.1) (fun cl' hw=>by
   cases hw
   rw[c1,c4,c3,c2]
   exact⟨_,_,vi,.start⟩) (by rw[c1];exact hp Kq)
 rw[hd] at Ao
 exact Ends.next (hm.trans hr) (hT _ lg w' _ D cl' sl (Wb.trans iR) Ao ho (by rw[aC];exact St.le_refl _))
end
section
variable {ι:Type} {E:dW ι} {L:Nat→Option Obj} {K:Nat→St} {gs:Array Goroutine} {w w':World} {t:Trace} {D:List (au ι)} {pend d0:Nat} {cl:AY} {sl:Option (Nat×Nat)}
 {Q:Machine→Outcome→World→Trace→Prop} {g g' child:Goroutine} {s ir:St} {es:Array Event}
theorem we(f:au ι→Nat)(D:List (au ι))(r:au ι):fy f (D++[r])=fy f D+f r:=by simp[fy]
theorem Inv.spawn(h:Inv E L K gs w t D pend none g 0)(hrw:(K 0).rw=[])(bW:stepG E.P true g w= .spawn g' child w #[])(hle:ir.le (K 0)){r:au ι}{cl':AY} 
 (hr:r.left=false)(fu:∀t',Deaf t' gs.size=0→ov E t' gs.size ir child r)
 (hn:r.cnt+mi=pend)(h4:r.c4=0)(h3:r.c3=0)(h2:r.c2=0)
 (iR:(cl'=none∧r.early)∨(∃n,cl'=some (D.length,.kd,n)∧r= .closer∧CK.at E ir child n .kd)):
 ∃lg u,runT E.P (crowd gs w sl) 0=(.next (crowd lg w sl),u)∧Inv E L (fM K gs.size ir) lg w (t++u) (D++[r]) mi cl' g' 0∧0 <gs.size:=by
 have uI:=h.base.size
 have bX:=runT_crowd_spawn (P:=E.P) (sl:=sl) (i:=0) h.main (by simpa using bW)
 have e0:MemOp.ofEvents 0 g.frame.fn g.frame.place #[]= #[]:=rfl
 rw[e0] at bX
 generalize hx:({g:=0,fn:=g.frame.fn,pos:=g.frame.place,act:= .go gs.size}:MemOp)=x at bX
 generalize hy:({g:=gs.size,fn:=child.frame.fn,pos:=g.frame.place,act:= .start}:MemOp)=y at bX
 have ex:x.g=0∧x.act= .go gs.size:=by rw[←hx];exact⟨rfl,rfl⟩
 have ey:y.g=gs.size∧y.act= .start:=by rw[←hy];exact⟨rfl,rfl⟩
 have eu:((#[]:Array MemOp).push x).push y= #[x,y]:=rfl
 rw[eu] at bX
 have hq:∀op∈ #[x,y],op.act.touch?=none:=by intro op az;simp at az;rcases az with rfl|rfl<;>simp[ex.2,ey.2,MemAct.touch?]
 have SB:∀op∈ #[x,y],∀m,op.act≠ .mark m:=by intro op az;simp at az;rcases az with rfl|rfl<;>simp[ex.2,ey.2]
 have hg:∀op∈ #[x,y],op.g=0∨op.g=gs.size:=by intro op az;simp at az;rcases az with rfl|rfl<;>simp[ex.1,ey.1]
 have OY:Deaf t gs.size=0:=ConcN.Deaf_absent fun i op ho e=>by have:=h.base.ops op (mem_of_getElem? ho);omega
 have Am:∀k,Deaf (t++ #[x,y]) k=Deaf t k:=fun k=>fW t k _ SB
 have aiq:∀p,Knows t 0 p→Knows (t++ #[x,y]) gs.size p:=fun p hp=>ConcN.fork_knows ex ey h.deaf OY hp
 have mE:=h.base.fit.quiet (u:= #[x,y]) (w':=w) E.Ch h.sy.kC h.sy.lC (Nat.le_refl _) (fun _ _ _=>rfl) hq
 have hs0:ir.rw=[]:=by
  obtain⟨R,hR,_⟩:=hle
  rw[hrw] at hR
  have:=List.append_eq_nil_iff.1 (List.nil_perm.1 hR)
  exact this.1
 have BA:∀b o,ir.ro b=some o→(K 0).ro b=some o:=fun b o hb=>by
  obtain⟨R,hR,h2⟩:=hle
  rw[hrw] at hR
  have:=List.append_eq_nil_iff.1 (List.nil_perm.1 hR)
  rcases h2 b o hb with h3|h3
  ·exact h3
  rw[this.2] at h3;cases h3
 have air:=mE.share (i:=0) (n:=gs.size) (by omega) ir hs0 BA fun b hb p z hz hzb hzw=>by
  rcases bJ hz with ⟨_,E9⟩| ⟨_,op,hm,_,hzo⟩
  ·refine aiq p (h.base.fit.rK 0 b ?_ p z E9 hzb hzw)
   cases mH:ir.ro b with
   |none=>exact absurd mH hb
   |some o=>rw[BA b o mH];simp
  rw[hq op hm] at hzo;cases hzo
 have JN:∀b,(∀j,¬(K j).knows b)→∀j,¬(fM K gs.size ir j).knows b:=fun b hb j hk=>by
  by_cases e:j=gs.size
  ·subst e;rw[aC] at hk;exact hb 0 (hle.knows hk)
  rw[aI _ _ e] at hk;exact hb j hk
 have jo:=h.sy.Fz
 have oT:∀ {k z},(D++[r])[k]?=some z→(k <D.length∧D[k]?=some z)∨(k=D.length∧z=r):=fun {k z} hk=>by
  rcases Nat.lt_trichotomy k D.length with cP|e|hgt
  ·rw[List.getElem?_append_left cP] at hk;exact .inl ⟨cP,hk⟩
  ·subst e;rw[List.getElem?_append_right (Nat.le_refl _)] at hk;simp at hk;exact .inr ⟨rfl,hk.symm⟩
  rw[List.getElem?_eq_none (by simp;omega)] at hk;cases hk
 have hgs:∀k,k≠0→k <gs.size→((gs.setIfInBounds 0 g').push child)[k]?=gs[k]?:=fun k h0 cP=>by
  rw[Array.getElem?_push_lt (by simpa using cP),←Array.getElem?_eq_getElem,Array.getElem?_setIfInBounds_ne (Ne.symm h0)]
 have hgn:((gs.setIfInBounds 0 g').push child)[gs.size]?=some child:=by
  rw[Array.getElem?_push,if_pos (by simp)]
 refine⟨_,_,bX,⟨⟨air,by simp[uI],fun k z hk=>?_,fun k hk b hb=>?_,fun op az=>?_,h.base.same⟩,
  ⟨JN _ h.sy.kW,JN _ h.sy.kC,h.sy.lW,h.sy.lC,h.sy.ne,fun a=>(h.sy.norel a).app fun op az=>SB op az _,fun j hj p z hz hzb hzk=>?_,?_,?_,?_,h.sy.chan,h.sy.bal,?_⟩,?_,by rw[Am];exact h.deaf⟩,by omega⟩
 ·rcases oT hk with ⟨cP,jN⟩| ⟨rfl,rfl⟩
  ·obtain⟨q,hqk,aP2⟩:=h.base.ok k z jN
   exact⟨q,by rw[hgs _ (by omega) (by omega)];exact hqk,by rw[aI _ _ (by omega)];exact aP2.other fun op az=>by rcases hg op az with e|e<;>rw[e]<;>omega⟩
  refine⟨child,by rw[←uI];exact hgn,?_⟩
  rw[←uI,aC]
  exact fu _ (by rw[Am];exact OY)
 ·rw[Array.size_push,Array.size_setIfInBounds] at hk
  rw[aI _ _ (by omega)] at hb
  exact h.base.far k (by omega) b hb
 ·rw[Array.size_push,Array.size_setIfInBounds]
  rcases Array.mem_append.1 az with h'|h'
  ·have:=h.base.ops op h';omega
  rcases hg op h' with e|e<;>rw[e]<;>omega
 ·rcases bJ hz with ⟨_,E9⟩| ⟨_,op,hm,_,hzo⟩
  ·rcases hj with rfl| ⟨k,q,rfl,hk,hl⟩
   ·exact(h.sy.plain 0 (.inl rfl) p z E9 hzb hzk).app _
   rcases oT hk with ⟨_,jN⟩| ⟨rfl,rfl⟩
   ·exact(h.sy.plain (k+1) (.inr ⟨k,q,rfl,jN,hl⟩) p z E9 hzb hzk).app _
   rw[←uI];exact aiq p (h.sy.plain 0 (.inl rfl) p z E9 hzb hzk)
  rw[hq op hm] at hzo;cases hzo
 ·have P9:=h.sy.said
  rcases iR with ⟨rfl,_⟩| ⟨n,rfl,_,_⟩
  ·intro p z hz hzb hzk
   rcases bJ hz with ⟨_,E9⟩| ⟨_,op,hm,_,hzo⟩
   ·exact(P9 p z E9 hzb hzk).app _
   rw[hq op hm] at hzo;cases hzo
  intro _ p z hz hzb hzk
  rcases bJ hz with ⟨_,E9⟩| ⟨_,op,hm,_,hzo⟩
  ·rw[←uI];exact aiq p (P9 p z E9 hzb hzk)
  rw[hq op hm] at hzo;cases hzo
 ·obtain⟨st,sm,ha,nt⟩:=h.sy.cells
  refine⟨st,sm,ha,?_⟩
  rw[we,we,we,we,h4,h3,h2,show fy au.cnt D+r.cnt+mi=fy au.cnt D+pend by omega]
  rcases iR with ⟨rfl,_⟩| ⟨n,rfl,_,_⟩
  ·exact nt
  have z:∀(f:au ι→Nat),(∀r:au ι,r.early→f r=0)→fy f D=0:=fun f hf=>by
   unfold fy
   rw[List.sum_eq_zero_iff_forall_eq_nat]
   intro a vi
   obtain⟨q,FU,rfl⟩:=List.mem_map.1 vi
   exact hf q (jo q FU)
  have z4:=z au.c4 fun r hr=>by cases r<;>first|rfl|exact hr.elim
  have z3:=z au.c3 fun r hr=>by cases r<;>first|rfl|exact hr.elim
  have z2:=z au.c2 fun r hr=>by cases r<;>first|rfl|exact hr.elim
  obtain⟨rfl,rfl⟩:=nt.opened rfl
  rw[z4,z3,z2]
  exact .kd
 ·rw[we];have:=h.sy.C2;omega
 ·rcases iR with ⟨rfl,T6⟩| ⟨n,rfl,rfl,ql⟩
  ·intro z hz
   rcases List.mem_append.1 hz with h'|h'
   ·exact jo z h'
   simp at h';subst h';exact T6
  refine⟨by simp,fun k hk=>?_,by rw[Am,←uI];exact OY,⟨child,by rw[←uI];exact hgn,by rw[←uI,aC];exact ql⟩,fun⟨_,e⟩=>(by cases e)⟩
  rcases oT hk with ⟨_,jN⟩| ⟨e,_⟩
  ·exact(jo _ (List.mem_of_getElem? jN)).elim
  exact e
 rw[Array.getElem?_push_lt (by simp;omega),←Array.getElem?_eq_getElem,Array.getElem?_setIfInBounds_self_of_lt (by omega)]
theorem Lc{os:List ι}{o:ι}(hs:g.status= .running)(hrw:s.rw=[])(bW:∀w,aS s w→stepG E.P true g w= .spawn g' child w #[])(hw:eJ E.P false (E.KP o) child s)
 (hT:TC E L Q 0 false (os++[o]) 0 g' s):TC E L Q 1 false os 0 g s:=by
 refine xN hs (fun K gs w t D cl sl m iR hI ho hK hm=>?_) fun e=>(by cases e)
 subst hK
 have hcn:cl=none:=by cases cl<;>simp_all
 subst hcn
 obtain⟨tr,ir,hle,htr⟩:=hw
 obtain⟨lg,u,hr,Ao,h0⟩:=hI.spawn (sl:=sl) (r:= .work o tr) (cl':=none) (mi:=0) hrw (bW w (hI.base.fit.jP 0)) hle rfl (fun t' hd=>⟨hd,htr⟩) rfl rfl rfl rfl (.inl ⟨rfl,trivial⟩)
 exact Ends.next (hm.trans hr) (hT _ lg w _ _ none sl rfl Ao (by simp[kO,List.filterMap_append,au.YM] at ho ⊢;exact ho) (by rw[aI _ _ (by omega)];exact St.le_refl _))
theorem Ld{os:List ι}(hs:g.status= .running)(hrw:s.rw=[])(bW:∀w,aS s w→stepG E.P true g w= .spawn g' child w #[])(hw:E.closes s child)
 (hT:TC E L Q 0 true os 0 g' s):TC E L Q 0 false os 0 g s:=by
 refine xN hs (fun K gs w t D cl sl m iR hI ho hK hm=>?_) fun e=>(by cases e)
 subst hK
 have hcn:cl=none:=by cases cl<;>simp_all
 subst hcn
 obtain⟨n,hn⟩:=hw
 obtain⟨lg,u,hr,Ao,h0⟩:=hI.spawn (sl:=sl) (ir:=K 0) (r:= .closer) (cl':=some (D.length,.kd,n)) (mi:=0) hrw (bW w (hI.base.fit.jP 0)) (St.le_refl _) rfl (fun t' hd=>trivial) rfl rfl rfl rfl (.inr ⟨n,rfl,rfl,hn⟩)
 exact Ends.next (hm.trans hr) (hT _ lg w _ _ _ sl rfl Ao (by rw[kO,List.filterMap_append];simp only[List.filterMap_cons,au.YM,List.filterMap_nil,List.append_nil];exact ho) (by rw[aI _ _ (by omega)];exact St.le_refl _))
end
section
variable {ι:Type} {E:dW ι} {Q:Machine→Outcome→World→Trace→Prop} {g:Goroutine} {s s':St}
theorem QE{L:Nat→Option Obj}(hs:g.status= .running)(dR:E.Wg≠E.Ch)
 (hW:(E.Wg,wgBlock E.ty 0 0)∈s.rw)(hC:∃tm,(E.Ch,Obj.chan 0 #[] false 0 0 tm)∈s.rw)
 (hle:s'.le s)(hkW:¬s'.knows E.Wg)(hkC:¬s'.knows E.Ch)(kR:∀b,s'.jh b→L b=none)
 (hL:∀b o,L b=some o→s.has b o∧b≠E.Wg∧b≠E.Ch)
 (hT:TC E L Q 0 false [] 0 g s'):TL E.P eF (fun _=>none) (Calm E.os E.out) Q g s:=by
 intro K gs w t q sl hLv h0 aQC hd ⟨awS,ahE⟩
 have hLv:=hLv.le aQC
 have hs0:(fM K 0 s) 0=s:=aC _ _ _
 have p6:=hLv.fit.jP 0
 rw[hs0] at p6
 obtain⟨tm,hC⟩:=hC
 have hWw:=p6.rw _ _ hW
 have hCw:=p6.rw _ _ hC
 have hex:∀i,i <q.length→∃d,∃x,gs[i+1]?=some x∧QuitsD E.P (q.getD i 0) d x∧Deaf t (i+1)=d∧eF t (i+1):=fun i hi=>by
  obtain⟨x,d,h1,h2,h3,h4⟩:=hLv.ok i _ (List.getElem?_eq_getElem hi)
  exact⟨d,x,h1,by rw[List.getD_eq_getElem?_getD,List.getElem?_eq_getElem hi];exact h2,h3,h4⟩
 let D:List (au ι):=(List.range q.length).map fun i=>au.leave (q.getD i 0) (Deaf t (i+1)) false
 have hD:∀i r,D[i]?=some r→i <q.length∧r=au.leave (q.getD i 0) (Deaf t (i+1)) false:=fun i r hi=>by
  simp only[D,List.getElem?_map] at hi
  obtain⟨j,hj,rfl⟩:=Option.map_eq_some_iff.1 hi
  obtain⟨cP,rfl⟩:=List.getElem?_eq_some_iff.1 hj
  simp only[List.length_range] at cP
  simp only[List.getElem_range]
  exact⟨cP,trivial⟩
 have jm:∀r∈D,∃a b,r=au.leave a b false:=fun r hr=>by
  obtain⟨i,hi⟩:=List.getElem?_of_mem hr
  exact⟨_,_,(hD i r hi).2⟩
 have hzero:∀f:au ι→Nat,(∀a b,f (.leave a b false)=0)→fy f D=0:=fun f hf=>by
  unfold fy
  rw[List.sum_eq_zero_iff_forall_eq_nat]
  intro x hx
  obtain⟨r,hr,rfl⟩:=List.mem_map.1 hx
  obtain⟨a,b,rfl⟩:=jm r hr
  exact hf a b
 let K':Nat→St:=fun j=>if j=0 then s' else ⟨fun _=>none,[]⟩
 have ZS:K' 0=s':=by simp[K']
 have hKn:∀j,j≠0→K' j=⟨fun _=>none,[]⟩:=fun j hj=>by simp[K',hj]
 have none:∀j b,j≠0→¬(K' j).knows b:=fun j b hj hk=>by
  rw[hKn j hj] at hk
  rcases hk with hk| ⟨o,ho⟩
  ·exact hk rfl
  cases ho
 have H9:Fit (fun _=>Option.none) K' w t:=hLv.fit.le fun j=>by
  by_cases e:j=0
  ·subst e;rw[ZS,hs0];exact hle
  rw[hKn j e];exact⟨(fM K 0 s j).rw,by simp,fun b o hb=>(by cases hb)⟩
 have air:Fit L K' w t:=by
  refine⟨fun b o hl=>p6.has (hL b o hl).1,fun i b ho=>?_,H9.jP,H9.sep,H9.perm,H9.rK,H9.old,H9.clean,fun p x b hx hk hb=>⟨?_,(H9.sync p x b hx hk hb).2⟩⟩
  ·by_cases e:i=0
   ·subst e;rw[ZS] at ho;exact kR b ho
   exact absurd (.inr ho) (none i b e)
  cases hl:L b with
  |none=>rfl
  |some o=>
   have:=(hLv.fit.sync p x b hx hk hb).2 0
   rw[hs0] at this
   rcases(hL b o hl).1 with h1|h1
   ·exact absurd (.inl (by rw[h1];simp)) this
   exact absurd (.inr ⟨o,h1⟩) this
 have hLb:∀b,(b=E.Wg∨b=E.Ch)→L b=Option.none:=fun b hb=>by
  cases hl:L b with
  |none=>rfl
  |some o=>
   rcases hb with e|e
   ·exact absurd e (hL b o hl).2.1
   exact absurd e (hL b o hl).2.2
 have hKk:∀b,¬s'.knows b→∀j,¬(K' j).knows b:=fun b hb j=>by
  by_cases e:j=0
  ·subst e;rw[ZS];exact hb
  exact none j b e
 have arf:∀p x,touchAt t p=some x→blk x.loc=some E.Wg→Knows t 0 p:=fun p x hx hb=>hLv.fit.perm 0 E.Wg (by rw[hs0];exact⟨_,hW⟩) p x hx hb
 have aDZ:∀p x,touchAt t p=some x→E.At x→Knows t 0 p:=fun p x hx hb=>hb.elim (arf p x hx) fun hb=>hLv.fit.perm 0 E.Ch (by rw[hs0];exact⟨_,hC⟩) p x hx hb
 refine hT K' gs w t D Option.none sl rfl ⟨⟨air,by simp[D,hLv.size],fun i r hi=>?_,fun i hi b=>?_,hLv.ops,ahE⟩,
  ⟨hKk _ hkW,hKk _ hkC,hLb _ (.inl rfl),hLb _ (.inr rfl),dR,awS,fun j hj p x hx hb _=>?_,fun p x hx hb _=>arf p x hx hb,⟨0,0,hWw,?_⟩,?_,⟨0,0,tm,hCw⟩,fun a b c hx=>?_,fun r hr=>?_⟩,h0,hd⟩ ?_ (by rw[ZS];exact St.le_refl _)
 ·obtain⟨cP,rfl⟩:=hD i r hi
  obtain⟨d,x,h1,h2,h3,h4⟩:=hex i cP
  exact⟨x,h1,hKn _ (by omega),by rw[h3];exact h2,rfl,(fun e=>(by cases e)),fun _=>h4⟩
 ·exact none i b (by have:=hLv.size;omega)
 ·rcases hj with rfl| ⟨k,r,rfl,hk,hl⟩
  ·exact aDZ p x hx hb
  obtain⟨_,rfl⟩:=hD k r hk;cases hl
 ·rw[hzero au.cnt fun _ _=>rfl,hzero au.c4 fun _ _=>rfl,hzero au.c3 fun _ _=>rfl,hzero au.c2 fun _ _=>rfl]
  have:=Md.start (mx:=E.max) (n:=0)
  simpa using this
 ·rw[hzero au.cnt fun _ _=>rfl];omega
 ·rw[hCw] at hx
  simp only[Option.some.injEq,Obj.chan.injEq] at hx
  omega
 ·obtain⟨a,b,rfl⟩:=jm r hr;rfl
 unfold kO
 rw[List.filterMap_eq_nil_iff]
 intro r hr
 obtain⟨a,b,rfl⟩:=jm r hr;rfl
end
theorem Es(os:Os)(out:Array (Nat×ByteArray)):aaH (Calm os out) where
 grow:=fun _ _ _ _ h hu=>⟨fun a=>(h.1 a).app fun op az=>hu op az a,h.2⟩
 drawn:=fun _ _ _ _ h=>h
 le:=fun _ _ _ _ h _=>h
 own:=fun _ _ _ _ _ _ _ h ht hu=>⟨fun a=>(h.1 a).app fun op az=>hu op az a,ht.os.trans h.2.1,ht.output.trans h.2.2⟩
def T0(P:Program)(os:Os)(out:Array (Nat×ByteArray))(Post:Value→World→Prop):Goroutine→St→Prop:=TL P eF (fun _=>none) (Calm os out) (Good P Post)
theorem tb(P:Program)(os:Os)(out:Array (Nat×ByteArray))(Post:Value→World→Prop):Closed P true (T0 P os out Post):=KX EE (Es os out) _
theorem aa0{os:Os}{out:Array (Nat×ByteArray)}{Post:Value→World→Prop}{s:St}(hs:g.status= .running)
 (bW:∀w,aS s w→w.os=os→w.output=out→∃v w' es s',stepG P true g w= .ended (.done v) w' es∧Post v w'∧Trans s w s' w' es):T0 P os out Post g s:=by
 refine Nz EE (Es os out) hs fun K gs w t q sl m hL h0 hK hd hi hm hmg=>?_
 subst hK
 obtain⟨v,w',es,s',hgo,hp,ht⟩:=bW w (hL.fit.jP 0) hi.2.1 hi.2.2
 have hr:=ConcN.runT_crowd_ended (P:=P) (sl:=sl) (i:=0) h0 (by simpa using hgo)
 have mE:=hL.fit.own ht g.frame.fn g.frame.place
 generalize hu:MemOp.ofEvents 0 g.frame.fn g.frame.place es=u at hr mE
 have MH:∀op∈u,op.g=0:=by rw[←hu];exact fun op az=>Go.ConcR.g_of_ofEvents op az
 refine⟨0,m,.done v,w',t++u,by simp[runNT,hm,hr],rfl,by simp[step,hm,hr],v,rfl,hp,mE.clean,fun i k hk dR hc=>?_,⟨fun x hx=>?_,by rw[hmg.2];rfl⟩,fun i x hx dR=>?_⟩
 ·obtain⟨op,ho,bbE⟩:=Option.map_eq_some_iff.1 hk
  cases k with
  |zero=>exact absurd rfl dR
  |succ k=>
   have cP:op.g <gs.size:=by
    rcases Array.mem_append.1 (mem_of_getElem? ho) with h'|h'
    ·exact hL.ops op h'
    rw[MH op h',hL.size];omega
   have hkq:k <q.length:=by have:=hL.size;omega
   obtain⟨_,_,_,_,_,bY⟩:=hL.ok k _ (List.getElem?_eq_getElem hkq)
   exact(bY.other fun op az=>by rw[MH op az];omega) i hk hc
 ·rw[hmg.1] at hx
  obtain⟨j,hj⟩:=List.getElem?_of_mem hx
  rw[List.getElem?_drop,Array.getElem?_toList] at hj
  have hjq:j <q.length:=by have:=lt_size hj;have:=hL.size;omega
  obtain⟨y,d,hy,hq,_⟩:=hL.ok j _ (List.getElem?_eq_getElem hjq)
  rw[Nat.add_comm] at hj
  rw[hj] at hy
  obtain rfl:=Option.some.inj hy
  exact⟨_,hq.leaves⟩
 rw[hmg.1] at hx
 cases i with
 |zero=>exact absurd rfl dR
 |succ j=>
  have hjq:j <q.length:=by have:=lt_size hx;have:=hL.size;omega
  obtain⟨y,d,hy,hq,hdd,_⟩:=hL.ok j _ (List.getElem?_eq_getElem hjq)
  rw[hx] at hy
  obtain rfl:=Option.some.inj hy
  refine⟨q[j],?_⟩
  have e:(t++u).deaf (j+1) (t++u).size=d:=by
   have:=gR t u (g:=j+1) fun op az=>by rw[MH op az];omega
   unfold Deaf at this hdd
   rw[this];exact hdd
  rw[e]
  exact hq.hears m.world
theorem aeM{Post:Value→World→Prop}{s:St}{w:World}(ha:aS s w)(h:T0 P w.os w.output Post g s):Ends P (Good P Post) (solo g w) #[]:=by
 rw[solo_eq_crowd]
 have H6:∀p x,touchAt #[] p=some x→False:=fun p x hx=>by simp[touchAt,Trace.act?] at hx
 have hn:∀i,i≠0→∀b,¬((if i=0 then s else ⟨fun _=>none,[]⟩:St)).knows b:=fun i hi b hk=>by
  rw[if_neg hi] at hk
  rcases hk with hk| ⟨o,ho⟩
  ·exact hk rfl
  cases ho
 refine h (fun j=>if j=0 then s else ⟨fun _=>none,[]⟩) #[g] w #[] [] none ⟨⟨(fun _ _ e=>(by cases e)),fun _ _ _=>rfl,fun i=>?_,fun i j b JM ho hk=>?_,fun _ _ _ p x hx=>(H6 p x hx).elim,fun _ _ _ p x hx=>(H6 p x hx).elim,
  fun p x _ hx=>(H6 p x hx).elim,(fun said ⟨i,j,_,⟨a,b,h1,_⟩,_⟩=>by simp[Trace.act?] at h1),fun p x _ hx=>(H6 p x hx).elim⟩,rfl,fun i n hi=>by simp at hi,fun i b hi hk=>hn i hi b hk,by simp⟩ rfl (by simp only[if_true];exact St.le_refl _) rfl ⟨fun a i=>by simp[Trace.act?],rfl,rfl⟩
 ·by_cases e:i=0
  ·simp only[e,if_true];exact ha
  simp only[if_neg e];exact⟨(fun _ _ e=>(by cases e)),(fun _ _ e=>(by cases e)),by simp,(fun _ _ e=>(by cases e))⟩
 by_cases e:j=0
 ·exact hn i (fun e'=>JM (e'.trans e.symm)) b (.inr ho)
 exact hn j e b hk
section
variable {ι:Type} {E:dW ι} {L:Nat→Option Obj} {pend d0:Nat} {Q:Machine→Outcome→World→Trace→Prop} {g g':Goroutine} {s:St} {os:List ι}
theorem Ye(hs:g.status= .running)(bW:∀w,E.live w→stepG E.P true g w= .go g' w #[])(hT:TC E L Q pend false os d0 g' s):TC E L Q pend false os d0 g s:=
 FL (es:= #[]) (mi:=pend) hs rfl (fun w st sm ha hb _=>⟨w,bW w ⟨st,sm,ha⟩,eI.refl w,by obtain⟨rfl,rfl⟩:=hb rfl;exact ha⟩) (by simp) rfl id hT
theorem amS(hs:g.status= .running)(bW:∀w,E.live w→stepG E.P true g w= .go g' w #[said (.read (smA E.Wg))])(hT:TC E L Q pend false os d0 g' s):TC E L Q pend false os d0 g s:=by
 refine xN hs (fun K gs w t D cl sl m iR hI ho hK hm=>?_) fun e=>(by cases e)
 subst hK
 have hcn:cl=none:=by cases cl<;>simp_all
 subst hcn
 obtain⟨st,sm,ha,_⟩:=hI.sy.cells
 have hgo:=bW w ⟨st,sm,ha⟩
 have e1:MemOp.ofEvents 0 g.frame.fn g.frame.place #[said (.read (smA E.Wg))]= #[{g:=0,fn:=g.frame.fn,pos:=g.frame.place,act:= .mark (.read (smA E.Wg))}]:=by rw[ofEvents_eq];simp[said,Go.ConcR.ofEvent_mk]
 have awL:∀op∈MemOp.ofEvents 0 g.frame.fn g.frame.place #[said (.read (smA E.Wg))],op.g=0∧op.act= .mark (.read (smA E.Wg)):=by
  rw[e1];intro op az;simp only[List.mem_toArray,List.mem_singleton] at az;subst az;exact⟨rfl,rfl⟩
 have htc:∀op∈MemOp.ofEvents 0 g.frame.fn g.frame.place #[said (.read (smA E.Wg))],∀x,op.act.touch?=some x→x=⟨.cell (smA E.Wg),false,.said⟩:=fun op az x hx=>by
  rw[(awL op az).2] at hx;simp only[MemAct.touch?,Option.some.injEq] at hx;exact hx.symm
 obtain⟨lg,u,cl',hr,Ao,Wb⟩:=hI.go0 (sl:=sl) (s':=K 0) (mi:=pend) hgo ⟨rfl,rfl⟩ (hI.sy.kW 0) (hI.sy.kC 0) rfl (by
  rw[mg]
  refine hI.base.fit.beside E.Wg 0 hI.sy.kW hI.sy.lW (lt_size ha) (Nat.le_refl _) (fun _ _ _=>rfl) (fun op az=>(awL op az).1) fun op az x hx=>?_
  obtain rfl:=htc op az x hx
  refine⟨rfl,fun sd p a vi hc=>?_⟩
  have hl:blk a.loc=some E.Wg:=by rw[hc.1];rfl
  rcases hc.2.2.2 with h3|h3|h3
  ·exact hI.sy.plain 0 (.inl rfl) p a vi (.inl hl) h3
  ·cases h3
  ·exact hI.sy.said p a vi hl h3.2.1)
  (fun op az x hx _=>by obtain rfl:=htc op az x hx;exact⟨by simp,fun _=>rfl⟩) (fun op az a=>by rw[(awL op az).2];simp) (hI.I9 rfl) hI.sy.C2
 exact Ends.next (hm.trans hr) (hT _ lg w _ D cl' sl (Wb.trans iR) Ao ho (by rw[aC];exact St.le_refl _))
end
abbrev Nm:=Option Value×Option Value
abbrev jE:Nm:=(none,none)
def Jb:Nm→Nat→Option Value
 | (a,_),0=>a
 | (_,b),1=>b
 |_,_=>none
theorem TB(off:Nat):Jb jE off=none:=by
 match off with
 |0=>rfl
 |1=>rfl
 |_+2=>rfl
def PC:Nm→Nat→Value→Nm
 | (_,b),0,v=>(some v,b)
 | (a,_),1,v=>(a,some v)
 |c,_,_=>c
inductive RH(α:Type) where
 |ok (a:α)
 |halt (h:Halt)
structure VO(α:Type) where
 r:RH α
 ws:List (Nat×Value)
 es:List Event
 bs:List Nat
def vu(P:Program)(ty:TypeId):Sem α→Nm→Option (VO α)
 | .pure a,_=>some ⟨.ok a,[],[],[]⟩
 | .load m a k,c=>match a.spot with
  |some _=>none
  |none=>match Jb c a.off with
   |some v=>match vu P ty (k v) c with
    |some o=>some ⟨o.r,o.ws,⟨.cell a,false,m== .atomic⟩::o.es,a.block::o.bs⟩
    |none=>none
   |none=>none
 | .store m a v k,c=>match a.spot with
  |some _=>none
  |none=>bif single v then (match Jb c a.off with
   |some _=>match vu P ty k (PC c a.off v) with
    |some o=>some ⟨o.r,(a.off,v)::o.ws,⟨.cell a,true,m== .atomic⟩::o.es,a.block::o.bs⟩
    |none=>none
   |none=>none) else none
 | .shape r k,c=>match vu P ty (k (some (ty,2))) c with
  |some o=>some ⟨o.r,o.ws,o.es,r::o.bs⟩
  |none=>none
 | .frozen a k,c=>match vu P ty (k false) c with
  |some o=>some ⟨o.r,o.ws,o.es,a.block::o.bs⟩
  |none=>none
 | .program k,c=>vu P ty (k P) c
 | .mark m k,c=>match vu P ty k c with
  |some o=>some ⟨o.r,o.ws,⟨.mark m,false,true⟩::o.es,o.bs⟩
  |none=>none
 | .halt h,_=>some ⟨.halt h,[],[],[]⟩
 |_,_=>none
def mz(ty:TypeId)(W:Nat)(w:World)(c:Nm):Prop:=∃a b,w.heap[W]?=some (.cells #[a,b] ty)∧(∀x,c.1=some x→a=x)∧∀x,c.2=some x→b=x
theorem mz.aeW{w:World}{c:Nm}(h:mz ty W w c):∃a b,w.heap[W]?=some (.cells #[a,b] ty):=by
 obtain⟨a,b,h,_⟩:=h
 exact⟨a,b,h⟩
def Oa(W:Nat)(w:World)(ws:List (Nat×Value)):World:=ws.foldl (fun w x=>w.setCell ⟨W,x.1,none⟩ x.2) w
def RH.to(w:World):RH α→Result α
 | .ok a=> .ok a w
 | .halt h=> .halt h w
theorem Ja{w:World}{c:Nm}(h:mz ty W w c){v:Value}(hv:Jb c off=some v):w.cell? ⟨W,off,none⟩=some v:=by
 obtain⟨p,q,h,h1,h2⟩:=h
 unfold Jb at hv
 split at hv<;>try (cases hv;done)
 ·rw[←h1 _ hv];simp[World.cell?,h]
 rw[←h2 _ hv];simp[World.cell?,h]
theorem acQ{w:World}{c:Nm}(h:mz ty W w c){u v:Value}(hv:Jb c off=some u):mz ty W (w.setCell ⟨W,off,none⟩ v) (PC c off v):=by
 obtain⟨p,q,h,h1,h2⟩:=h
 unfold Jb at hv
 split at hv<;>try (cases hv;done)
 ·exact⟨v,q,by simp[World.setCell,Array.getElem?_modify,h],by simp[PC],fun x hx=>h2 x hx⟩
 exact⟨p,v,by simp[World.setCell,Array.getElem?_modify,h],fun x hx=>h1 x hx,by simp[PC]⟩
theorem aey{w:World}{a b:Value}(h:w.heap[W]?=some (.cells #[a,b] ty)) (off:Nat) (s:Option Nat):w.frozen? ⟨W,off,s⟩=false:=by
 simp[World.frozen?,h]
theorem NH(x:Sem α):∀ {c:Nm} {o:VO α} {w:World} (es:Array Event),vu P ty x c=some o→(∀b∈o.bs,b=W)→((c=jE∧o.bs=[])∨mz ty W w c)→x.runT P w es=(o.r.to (Oa W w o.ws),es++o.es.toArray):=by
 induction x with
 |pure a=>intro c o w es h hb hc;simp only[vu,Option.some.injEq] at h;subst h;simp[Sem.runT,RH.to,Oa]
 |halt a=>intro c o w es h hb hc;simp only[vu,Option.some.injEq] at h;subst h;simp[Sem.runT,RH.to,Oa]
 |load m a k ih=>
  intro c o w es h hb hc
  simp only[vu] at h
  split at h<;>try (cases h;done)
  rename_i hs
  split at h<;>try (cases h;done)
  rename_i v hv
  split at h<;>try (cases h;done)
  rename_i o1 h1
  simp only[Option.some.injEq] at h;subst h
  have e:a=⟨W,a.off,none⟩:=by
   have:=hb a.block (by simp)
   rcases a with ⟨x,y,z⟩
   simp only at hs this
   subst hs this;rfl
  have tI:mz ty W w c:=hc.elim (fun hh=>by rw[hh.1] at hv;rw[TB] at hv;cases hv) id
  have Ii:w.cell? a=some v:=by rw[e];exact Ja tI hv
  simp only[Sem.runT,Ii]
  rw[ih v _ h1 (fun b hm=>hb b (by simp[hm])) (.inr tI)]
  simp
 |store m a v k ih=>
  intro c o w es h hb hc
  simp only[vu] at h
  split at h<;>try (cases h;done)
  rename_i hs
  cases hsg:single v with
  |false=>rw[hsg] at h;cases h
  |true=>
  rw[hsg] at h;simp only[cond_true] at h
  split at h<;>try (cases h;done)
  rename_i u hu
  split at h<;>try (cases h;done)
  rename_i o1 h1
  simp only[Option.some.injEq] at h;subst h
  have e:a=⟨W,a.off,none⟩:=by
   have:=hb a.block (by simp)
   rcases a with ⟨x,y,z⟩
   simp only at hs this
   subst hs this;rfl
  have tI:mz ty W w c:=hc.elim (fun hh=>by rw[hh.1] at hu;rw[TB] at hu;cases hu) id
  have Ii:w.cell? a=some u:=by rw[e];exact Ja tI hu
  have hfz:w.frozen? a=false:=by
   obtain⟨p,q,ZC⟩:=tI.aeW
   rw[e];exact aey ZC _ _
  have pJ:=acQ (v:=v) tI hu
  have key:(Sem.store m a v k).runT P w es=k.runT P (w.setCell a v) (es.push ⟨.cell a,true,m== .atomic⟩):=by
   cases v<;>first| (cases hsg;done)|simp[Sem.runT,Ii,hfz]
  rw[key,ih _ h1 (fun b hm=>hb b (by simp[hm])) (.inr (by rw[e];exact pJ))]
  simp only[Oa,List.foldl_cons]
  rw[←e]
  simp
 |shape r k ih=>
  intro c o w es h hb hc
  simp only[vu] at h
  split at h<;>try (cases h;done)
  rename_i o1 h1
  simp only[Option.some.injEq] at h;subst h
  have e:r=W:=hb r (by simp)
  have tI:mz ty W w c:=hc.elim (fun hh=>by cases hh.2) id
  have hsh:w.shape? r=some (ty,2):=by
   obtain⟨p,q,ZC⟩:=tI.aeW
   rw[e];simp[World.shape?,ZC]
  simp only[Sem.runT,hsh]
  exact ih _ _ h1 (fun b hm=>hb b (by simp[hm])) (.inr tI)
 |frozen a k ih=>
  intro c o w es h hb hc
  simp only[vu] at h
  split at h<;>try (cases h;done)
  rename_i o1 h1
  simp only[Option.some.injEq] at h;subst h
  have e:a.block=W:=hb a.block (by simp)
  have tI:mz ty W w c:=hc.elim (fun hh=>by cases hh.2) id
  have hsh:w.frozen? a=false:=by
   obtain⟨p,q,ZC⟩:=tI.aeW
   rcases a with ⟨x,y,z⟩
   simp only at e;subst e;exact aey ZC _ _
  simp only[Sem.runT,hsh]
  exact ih _ _ h1 (fun b hm=>hb b (by simp[hm])) (.inr tI)
 |program k ih=>
  intro c o w es h hb hc
  simp only[vu] at h
  simp only[Sem.runT]
  exact ih _ _ h hb hc
 |mark m k ih=>
  intro c o w es h hb hc
  simp only[vu] at h
  split at h<;>try (cases h;done)
  rename_i o1 h1
  simp only[Option.some.injEq] at h;subst h
  simp only[Sem.runT]
  rw[ih _ h1 (fun b hm=>hb b hm) hc]
  simp
 |new o k ih=>intro c o w es h;cases h
 |freeze a n k ih=>intro c o w es h;cases h
 |getObj r k ih=>intro c o w es h;cases h
 |setObj r o k ih=>intro c o w es h;cases h
 |choose q k ih=>intro c o w es h;cases h
 |sys q k ih=>intro c o w es h;cases h
def azm(fr:Frame):Option Frame:=
 match fr.todo with
 | []=>match fr.roundOf with
  |none=>some {fr with mode:= .returning}
  |some _=>none
 | .code .ret::_=>match fr.roundOf with
  |none=>some {fr with mode:= .returning}
  |some _=>none
 | .code .skip::k=>some {fr with todo:=k}
 | .code (.label _)::k=>some {fr with todo:=k}
 | .inBlock _::k=>some {fr with todo:=k}
 | .inScope _::k=>some {fr with todo:=k}
 | .code (.seq a b)::k=>some {fr with todo:= .code a:: .code b::k}
 | .code (.cond c x y)::k=>match fr.eval c with
  | .bool b=>some {fr with todo:= .code (if b then x else y)::k}
  |_=>none
 | .code (.block id body)::k=>some {fr with todo:= .code body:: .inBlock id::k}
 | .code (.loop body)::k=>some {fr with todo:= .code body:: .inLoop body::k}
 | .inLoop body::k=>some {fr with todo:= .code body:: .inLoop body::k}
 | .code (.scope body)::k=>some {fr with todo:= .code body:: .inScope body::k}
 | .code (.exit id)::k=>match exitTo id k with
  |some k'=>some {fr with todo:=k'}
  |none=>none
 | .code (.region _ ops false)::k=>some {fr with todo:= .inRegion ops (List.range ops.size)::k}
 | .inRegion _ []::k=>some {fr with todo:=k}
 | .inRegion ops (i::_)::_=>if ((ops[i]?).map (Region.wanted · (yielded ops fr.tmps))).getD false then none else some (fr.finish undef)
 |_=>none
theorem apW(hm:fr.mode= .run)(h:azm fr=some od)(w:World):stepG P main (G fr cs) w= .go (G od cs) w #[]:=by
 rcases fr with ⟨fn,tmps,todo,defers,mode,kind,ro⟩
 simp only at hm;subst hm
 unfold azm at h
 simp only at h
 split at h
 all_goals try (cases h;done)
 all_goals try (simp only[Option.some.injEq] at h;subst h;simp[G,stepG,stepG.exec];done)
 ·split at h<;>try (cases h;done)
  simp only[Option.some.injEq] at h;subst h;simp[G,stepG,stepG.exec]
 ·split at h<;>try (cases h;done)
  simp only[Option.some.injEq] at h;subst h;simp[G,stepG,stepG.exec]
 ·split at h<;>try (cases h;done)
  rename_i b hb
  simp only[Option.some.injEq] at h;subst h
  simp only[G,stepG,stepG.exec,hb]
 ·split at h<;>try (cases h;done)
  rename_i b hb
  simp only[Option.some.injEq] at h;subst h
  simp[G,stepG,stepG.exec,hb]
 split at h<;>try (cases h;done)
 rename_i hw
 simp only[Option.some.injEq] at h;subst h
 simp only[G,stepG,stepG.exec,hw]
 simp
inductive OV where
 |go (fr:Frame) (iv:List Frame)
 |ret (v:Value)
 |aul
 |block
abbrev OVs:=Option (OV×List (Nat×Value)×List Event×List Nat)
def u6(P:Program)(fn:FuncId)(es:List Event):List Event:=(seen P fn es.toArray).toList
def Zt:CallKind→Bool
 | .early=>true
 |_=>false
def afV(P:Program)(ty:TypeId)(c:Nm)(fr:Frame)(iv:List Frame):OVs:=
 match fr.todo with
 | .inRegion ops (i::_)::_=>bif ((ops[i]?).map (Region.wanted · (yielded ops fr.tmps))).getD false&& !(Zt fr.kind) then (match fr.roundOf,fr.oper? with
  |none,some o=>match vu P ty (execOp fr.eval o) c with
   |some ⟨.ok (.value v),ws,es,bs⟩=>some (.go (fr.finish v) iv,ws,u6 P fr.fn es,bs)
   |some ⟨.ok .skip,ws,es,bs⟩=>some (.go (fr.finish undef) iv,ws,u6 P fr.fn es,bs)
   |some ⟨.ok (.enter f args),ws,es,bs⟩=>some (.go (Frame.enter P f args .normal) (fr::iv),ws,u6 P fr.fn es,bs)
   |some ⟨.ok (.defer d),ws,es,bs⟩=>some (.go ({fr with defers:=d::fr.defers}.finish undef) iv,ws,u6 P fr.fn es,bs)
   |some ⟨.halt .blocked,ws,_,bs⟩=>some (.block,ws,[],bs)
   |_=>none
  |_,_=>none) else none
 |_=>none
def aEY:Target→Bool
 | .fn .. =>true
 |_=>false
def atL(P:Program)(ty:TypeId)(c:Nm)(fr:Frame)(iv:List Frame):OVs:=
 match fr.defers with
 | []=>match P.funcs[fr.fn]? with
  |some fn=>match vu P ty (results fn fr.tmps) c with
   |some ⟨.ok v,ws,es,bs⟩=>match iv with
    |q::gk=>match fr.kind with
     | .normal=>some (.go (q.finish v) gk,ws,u6 P fr.fn es,bs)
     | .deferred=>match q.mode with
      | .returning=>some (.go q gk,ws,u6 P fr.fn es,bs)
      |_=>none
     |_=>none
    | []=>match fr.kind with
     | .normal=>some (.ret v,ws,u6 P fr.fn es,bs)
     | .deferred=>some (.aul,ws,u6 P fr.fn es,bs)
     |_=>none
   |_=>none
  |none=>none
 |d::ds=>bif aEY d.target then (match vu P ty (invoke d.target d.args) c with
  |some ⟨.ok (.value _),ws,es,bs⟩=>some (.go {fr with defers:=ds} iv,ws,u6 P fr.fn es,bs)
  |some ⟨.ok (.enter f args),ws,es,bs⟩=>some (.go (Frame.enter P f args .deferred) ({fr with defers:=ds}::iv),ws,u6 P fr.fn es,bs)
  |_=>none) else none
def Rx(P:Program)(ty:TypeId)(c:Nm)(fr:Frame)(iv:List Frame):OVs:=
 match fr.mode with
 | .run=>match azm fr with
  |some od=>some (.go od iv,[],[],[])
  |none=>afV P ty c fr iv
 | .returning=>atL P ty c fr iv
 |_=>none
def OV.is(P:Program)(main:Bool)(g:Goroutine)(w w':World)(es:Array Event)(cs:List Frame):OV→Prop
 | .go fr iv=>stepG P main g w= .go (G fr (iv++cs)) w' es
 | .ret v=>(∀c JX,cs=c::JX→stepG P main g w= .go (G (c.finish v) JX) w' es)
 | .aul=>(∀c JX,cs=c::JX→(c.mode= .returning∨∃ch,c.mode= .panicking [⟨ch,false,true⟩])→stepG P main g w= .go (G c JX) w' es)
 | .block=>stepG P main g w= .go {g with status:= .blocked} w' es
section
variable {P:Program} {main:Bool} {ty:TypeId} {W:Nat} {c:Nm} {fr:Frame} {iv cs:List Frame} {w:World} {o:OV} {ws:List (Nat×Value)} {es:List Event} {bs:List Nat}
theorem toArr(P:Program)(fn:FuncId)(es:List Event):(u6 P fn es).toArray=seen P fn es.toArray:=by simp[u6]
theorem afU(hm:fr.mode= .run)(h:afV P ty c fr iv=some (o,ws,es,bs))(hb:∀b∈bs,b=W)(hc:(c=jE∧bs=[])∨mz ty W w c)(cs:List Frame)(main:Bool):o.is P main (G fr (iv++cs)) w (Oa W w ws) es.toArray cs:=by
 rcases fr with ⟨fn,tmps,todo,defers,mode,kind,ro⟩
 simp only at hm;subst hm
 unfold afV at h
 simp only at h
 split at h<;>try (cases h;done)
 rename_i ops i rest k
 cases hw:(((ops[i]?).map (Region.wanted · (yielded ops tmps))).getD false&& !(Zt kind)) with
 |false=>rw[hw] at h;cases h
 |true=>
 rw[hw] at h;simp only[cond_true] at h
 simp only[Bool.and_eq_true] at hw
 have hk:(kind==CallKind.early)=false:=by cases kind<;>first|rfl|cases hw.2
 split at h<;>try (cases h;done)
 rename_i op az
 have gF:∀cs,stepG P main (G ⟨fn,tmps,.inRegion ops (i::rest)::k,defers,.run,kind,none⟩ cs) w=stepG.apply P true ⟨fn,tmps,.inRegion ops (i::rest)::k,defers,.run,kind,none⟩ cs none (execOp (Frame.eval ⟨fn,tmps,.inRegion ops (i::rest)::k,defers,.run,kind,none⟩) op) w:=by
  intro cs
  simp only[G,stepG,stepG.exec,hw.1,if_true,stepG.oper,az]
 split at h<;>try (cases h;done)
 all_goals
  rename_i heq hv
  simp only[Option.some.injEq,Prod.mk.injEq] at h
  obtain⟨rfl,rfl,rfl,rfl⟩:=h
  have bX:=NH _ (w:=w) #[] hv hb hc
  simp only[RH.to,Array.empty_append] at bX
  simp only[OV.is]
  rw[gF]
  simp only[stepG.apply,bX,if_true,hk,Bool.false_eq_true,if_false,GStep.after,Array.append_empty,G,toArr]
 all_goals first|rfl| (simp[seen_none];done)
theorem amO(hm:fr.mode= .returning)(h:atL P ty c fr iv=some (o,ws,es,bs))(hb:∀b∈bs,b=W)(hc:(c=jE∧bs=[])∨mz ty W w c)(cs:List Frame)(main:Bool):o.is P main (G fr (iv++cs)) w (Oa W w ws) es.toArray cs:=by
 rcases fr with ⟨fn,tmps,todo,defers,mode,kind,ro⟩
 simp only at hm;subst hm
 unfold atL at h
 simp only at h
 split at h
 ·split at h<;>try (cases h;done)
  rename_i f hf
  split at h<;>try (cases h;done)
  rename_i v ws' ep xA hv
  have bX:=fun hb hc=>NH _ (w:=w) #[] hv (W:=W) hb hc
  simp only[RH.to,Array.empty_append] at bX
  have key:(∀b∈xA,b=W)→((c=jE∧xA=[])∨mz ty W w c)→∀cs,stepG P main (G ⟨fn,tmps,todo,[],.returning,kind,ro⟩ cs) w=GStep.after (seen P fn ep.toArray) (doReturn P main ⟨fn,tmps,todo,[],.returning,kind,ro⟩ cs none v (Oa W w ws')):=by
   intro hb hc cs
   simp only[G,stepG,unwind,hf,bX hb hc]
  split at h
  ·split at h<;>try (cases h;done)
   ·simp only[Option.some.injEq,Prod.mk.injEq] at h
    obtain⟨rfl,rfl,rfl,rfl⟩:=h
    simp only[OV.is]
    rw[key hb hc]
    simp only[List.cons_append,doReturn,GStep.after,Array.append_empty,toArr,G]
   split at h<;>try (cases h;done)
   rename_i q gk hmq
   simp only[Option.some.injEq,Prod.mk.injEq] at h
   obtain⟨rfl,rfl,rfl,rfl⟩:=h
   simp only[OV.is]
   rw[key hb hc]
   simp only[List.cons_append,doReturn,hmq,GStep.after,Array.append_empty,toArr,G]
  split at h<;>try (cases h;done)
  ·simp only[Option.some.injEq,Prod.mk.injEq] at h
   obtain⟨rfl,rfl,rfl,rfl⟩:=h
   intro q JX hq
   subst hq
   rw[key hb hc]
   simp only[List.nil_append,doReturn,GStep.after,Array.append_empty,toArr,G]
  simp only[Option.some.injEq,Prod.mk.injEq] at h
  obtain⟨rfl,rfl,rfl,rfl⟩:=h
  intro q JX hq hmq
  subst hq
  rw[key hb hc]
  rcases hmq with hmq| ⟨ch,hmq⟩
  ·simp only[List.nil_append,doReturn,hmq,GStep.after,Array.append_empty,toArr,G]
  simp only[List.nil_append,doReturn,hmq,GStep.after,Array.append_empty,toArr,G]
 rename_i d ds
 cases hd:aEY d.target with
 |false=>rw[hd] at h;cases h
 |true=>
 rw[hd] at h;simp only[cond_true] at h
 rcases d with ⟨tg,args⟩
 cases tg with
 |fn f cap=>
  split at h<;>try (cases h;done)
  all_goals
   rename_i hv
   simp only[Option.some.injEq,Prod.mk.injEq] at h
   obtain⟨rfl,rfl,rfl,rfl⟩:=h
   have bX:=NH _ (w:=w) #[] hv hb hc
   simp only[RH.to,Array.empty_append] at bX
   simp only[OV.is]
   simp only[G,stepG,unwind,callDeferred,bX,GStep.after,toArr,Array.append_empty,Bool.false_and,Bool.false_eq_true,if_false,List.cons_append]
 |_=>cases hd
theorem rM(h:Rx P ty c fr iv=some (o,ws,es,bs))(hb:∀b∈bs,b=W)(hc:(c=jE∧bs=[])∨mz ty W w c)(cs:List Frame)(main:Bool):o.is P main (G fr (iv++cs)) w (Oa W w ws) es.toArray cs:=by
 unfold Rx at h
 split at h<;>try (cases h;done)
 ·rename_i hm
  split at h
  ·rename_i od hfr
   simp only[Option.some.injEq,Prod.mk.injEq] at h
   obtain⟨rfl,rfl,rfl,rfl⟩:=h
   exact apW hm hfr w
  exact afU hm h hb hc cs main
 rename_i hm
 exact amO hm h hb hc cs main
end
def akH:Event→Option (Nat×Nat×List Nat)
 | ⟨.mark .disable,false,true⟩=>some (1,0,[])
 | ⟨.mark .enable,false,true⟩=>some (2,0,[])
 | ⟨.mark (.releaseMerge ⟨b,o,none⟩),false,true⟩=>some (3,o,[b])
 | ⟨.mark (.acquire ⟨b,o,none⟩),false,true⟩=>some (4,o,[b])
 | ⟨.mark (.read ⟨b,o,none⟩),false,true⟩=>some (5,o,[b])
 | ⟨.mark (.write ⟨b,o,none⟩),false,true⟩=>some (6,o,[b])
 | ⟨.cell ⟨b,o,none⟩,false,true⟩=>some (7,o,[b])
 | ⟨.cell ⟨b,o,none⟩,true,true⟩=>some (8,o,[b])
 |_=>none
def Xd(W:Nat)(x:Nat×Nat):Event:=
 match x.1 with
 |1=>said .disable
 |2=>said .enable
 |3=>said (.releaseMerge ⟨W,x.2,none⟩)
 |4=>said (.acquire ⟨W,x.2,none⟩)
 |5=>said (.read ⟨W,x.2,none⟩)
 |6=>said (.write ⟨W,x.2,none⟩)
 |7=>⟨.cell ⟨W,x.2,none⟩,false,true⟩
 |_=>⟨.cell ⟨W,x.2,none⟩,true,true⟩
theorem akG{e:Event}{k o:Nat}{bs:List Nat}(h:akH e=some (k,o,bs))(hb:∀b∈bs,b=W):e=Xd W (k,o):=by
 unfold akH at h
 split at h<;>try (cases h;done)
 all_goals
  simp only[Option.some.injEq,Prod.mk.injEq] at h
  obtain⟨rfl,rfl,rfl⟩:=h
 ·rfl
 ·rfl
 all_goals
  have:=hb _ (List.mem_singleton.2 rfl)
  subst this
  rfl
def IZ:List Event→Option (List (Nat×Nat)×List Nat)
 | []=>some ([],[])
 |e::l=>match akH e,IZ l with
  |some (k,o,b),some (r,bs)=>some ((k,o)::r,b++bs)
  |_,_=>none
theorem M9:∀ {es:List Event} {ks:List (Nat×Nat)} {bs:List Nat},IZ es=some (ks,bs)→(∀b∈bs,b=W)→es=ks.map (Xd W)
 | [],ks,bs,h,hb=>by simp only[IZ,Option.some.injEq,Prod.mk.injEq] at h;obtain⟨rfl,rfl⟩:=h;rfl
 |e::l,ks,bs,h,hb=>by
  simp only[IZ] at h
  split at h<;>try (cases h;done)
  rename_i k o b r xA h1 h2
  simp only[Option.some.injEq,Prod.mk.injEq] at h
  obtain⟨rfl,rfl⟩:=h
  rw[List.map_cons,←akG h1 (fun x hx=>hb x (by simp[hx])),←M9 h2 (fun x hx=>hb x (by simp[hx]))]
abbrev Bl:=Option (List Nat)
def alf:List Nat→Bl→Bl
 |a,some b=>some (a++b)
 |_,none=>none
def both:Bl→Bl→Bl
 |some a,some b=>some (a++b)
 |_,_=>none
def alk(f:α→Bl):List α→Bl
 | []=>some []
 |x::l=>both (f x) (alk f l)
theorem PO{a bs:List Nat}{x:Bl}(h:alf a x=some bs)(hb:∀b∈bs,b=W):(∀b∈a,b=W)∧∃y,x=some y∧∀b∈y,b=W:=by
 cases x with
 |none=>cases h
 |some y=>
  simp only[alf,Option.some.injEq] at h;subst h
  exact⟨fun b hm=>hb b (by simp[hm]),y,rfl,fun b hm=>hb b (by simp[hm])⟩
theorem B8{bs:List Nat}{x y:Bl}(h:both x y=some bs)(hb:∀b∈bs,b=W):(∃a,x=some a∧∀b∈a,b=W)∧∃a,y=some a∧∀b∈a,b=W:=by
 cases x with
 |none=>cases h
 |some a=>
  cases y with
  |none=>cases h
  |some b=>
   simp only[both,Option.some.injEq] at h;subst h
   exact⟨⟨a,rfl,fun b hm=>hb b (by simp[hm])⟩,b,rfl,fun b hm=>hb b (by simp[hm])⟩
theorem F7{f:α→Bl}:∀ {l:List α} {bs:List Nat},alk f l=some bs→(∀b∈bs,b=W)→∀x∈l,∃a,f x=some a∧∀b∈a,b=W
 | [],_,_,_,x,hx=>by cases hx
 |y::l,bs,h,hb,x,hx=>by
  obtain⟨h1,h2,h3,h4⟩:=B8 h hb
  rcases List.mem_cons.1 hx with rfl|hx
  ·exact h1
  exact F7 h3 h4 x hx
def EG(P:Program)(ty:TypeId):Nat→Frame→List Frame→(Frame→List Frame→Bl)→Bl
 |0,_,_,_=>none
 |n+1,fr,iv,k=>match Rx P ty jE fr iv with
  |some (.go od gk,[],[],bs)=>alf bs (EG P ty n od gk k)
  |_=>k fr iv
def atg(P:Program)(ty:TypeId)(c:Nm)(fr:Frame)(iv:List Frame):Option (Frame×List Frame×List (Nat×Value)×List (Nat×Nat)×List Nat×List Nat):=
 match Rx P ty c fr iv with
 |some (.go od gk,ws,es,bs)=>match IZ es with
  |some (ks,b2)=>some (od,gk,ws,ks,bs,b2)
  |none=>none
 |_=>none
def i64(n:Int):Value:= .int .u64 n
def i32(n:Int):Value:= .int .u32 n
def Xq:List (Nat×Nat)→List (Nat×Nat)→Bool
 | [],[]=>true
 | (a,b)::l,(c,d)::m=>Nat.beq a c&&(Nat.beq b d&&Xq l m)
 |_,_=>false
theorem aay:∀ {l m:List (Nat×Nat)},Xq l m=true→l=m
 | [],[],_=>rfl
 | (a,b)::l,(c,d)::m,h=>by
  simp only[Xq,Bool.and_eq_true] at h
  rw[Nat.eq_of_beq_eq_true h.1,Nat.eq_of_beq_eq_true h.2.1,aay h.2.2]
 | [],_::_,h=>by simp[Xq] at h
 |_::_,[],h=>by simp[Xq] at h
def acX:List (Nat×Value)→Option (Nat×IntKind×Int)→Bool
 | [],none=>true
 | [(o,.int k n)],some (o',k',n')=>Nat.beq o o'&&(decide (k=k')&&decide (n=n'))
 |_,_=>false
theorem acW{l:List (Nat×Value)}(h:acX l none=true):l=[]:=by
 unfold acX at h
 split at h
 ·rfl
 ·rename_i heq;cases heq
 cases h
theorem acV{l:List (Nat×Value)}{o:Nat}{k:IntKind}{n:Int}(h:acX l (some (o,k,n))=true):l=[(o,.int k n)]:=by
 unfold acX at h
 split at h
 ·rename_i heq;cases heq
 ·rename_i heq
  cases heq
  simp only[Bool.and_eq_true,decide_eq_true_eq] at h
  rw[Nat.eq_of_beq_eq_true h.1,h.2.1,h.2.2]
 cases h
def EX(P:Program)(ty:TypeId)(c:Nm)(m:Bool)(wr:Option (Nat×IntKind×Int))(ks:List (Nat×Nat))(fr:Frame)(iv:List Frame)(k:Frame→List Frame→Bl):Bl:=
 match atg P ty c fr iv with
 |some (od,gk,ws,ks',b1,b2)=>bif acX ws wr&&(Xq ks' ks&&(!m||b1.isEmpty)) then alf b1 (alf b2 (k od gk)) else none
 |none=>none
section
variable {P:Program} {ty:TypeId} {W:Nat}
theorem amH{c:Nm}{gk:List Frame}{ws:List (Nat×Value)}{ks:List (Nat×Nat)}{b1 b2:List Nat}(h:atg P ty c fr iv=some (od,gk,ws,ks,b1,b2))(h1:∀b∈b1,b=W)(h2:∀b∈b2,b=W)
 {w:World}(hc:(c=jE∧b1=[])∨mz ty W w c)(cs:List Frame)(main:Bool):stepG P main (G fr (iv++cs)) w= .go (G od (gk++cs)) (Oa W w ws) (ks.map (Xd W)).toArray:=by
 unfold atg at h
 split at h<;>try (cases h;done)
 rename_i h0
 split at h<;>try (cases h;done)
 rename_i hk
 simp only[Option.some.injEq,Prod.mk.injEq] at h
 obtain⟨rfl,rfl,rfl,rfl,rfl,rfl⟩:=h
 have:=rM h0 h1 hc cs main
 simp only[OV.is] at this
 rw[this,M9 hk h2]
def wrote(W:Nat)(w:World):Option (Nat×IntKind×Int)→World
 |none=>w
 |some (o,k,n)=>w.setCell ⟨W,o,none⟩ (.int k n)
theorem gT{c:Nm}{m:Bool}{x:Option (Nat×IntKind×Int)}{ks:List (Nat×Nat)}{k:Frame→List Frame→Bl}{bs:List Nat}(h:EX P ty c m x ks fr iv k=some bs)(hb:∀b∈bs,b=W):
 ∃od gk xA,k od gk=some xA∧(∀b∈xA,b=W)∧∀cs main w,((c=jE∧m=true)∨mz ty W w c)→stepG P main (G fr (iv++cs)) w= .go (G od (gk++cs)) (wrote W w x) (ks.map (Xd W)).toArray:=by
 unfold EX at h
 split at h<;>try (cases h;done)
 rename_i od gk ws ks' b1 b2 hv
 cases hq:(acX ws x&&(Xq ks' ks&&(!m||b1.isEmpty))) with
 |false=>rw[hq] at h;cases h
 |true=>
 rw[hq] at h;simp only[cond_true] at h
 simp only[Bool.and_eq_true] at hq
 obtain⟨q1,q2,q3⟩:=hq
 obtain⟨h1,y,hy,hy'⟩:=PO h hb
 obtain⟨h2,z,hz,E9⟩:=PO hy hy'
 refine⟨od,gk,z,hz,E9,fun cs main w hc=>?_⟩
 have:=amH hv h1 h2 (w:=w) (by
  rcases hc with ⟨hc,hm⟩|hc
  ·subst hm
   simp at q3
   exact .inl ⟨hc,q3⟩
  exact .inr hc) cs main
 rw[this,aay q2]
 cases x with
 |none=>rw[acW q1];rfl
 |some x=>
  obtain⟨o,kd,n⟩:=x
  rw[acV q1];rfl
theorem WS{k:Frame→List Frame→Bl}:∀ {n:Nat} {fr:Frame} {iv:List Frame} {bs:List Nat},EG P ty n fr iv k=some bs→(∀b∈bs,b=W)→
 ∀(T:Frame→List Frame→Prop),(∀od gk xA,k od gk=some xA→(∀b∈xA,b=W)→T od gk)→
 (∀fr iv od gk,(∀cs main w,mz ty W w jE→stepG P main (G fr (iv++cs)) w= .go (G od (gk++cs)) w #[])→T od gk→T fr iv)→T fr iv
 |0,_,_,_,h,_,_,_,_=>by cases h
 |n+1,fr,iv,bs,h,hb,T,hk,hs=>by
  simp only[EG] at h
  split at h
  ·rename_i od gk b1 h0
   obtain⟨h1,y,hy,hy'⟩:=PO h hb
   refine hs fr iv od gk (fun cs main w hc=>?_) (WS hy hy' T hk hs)
   have:=rM h0 h1 (.inr hc) cs main
   simp only[OV.is] at this
   rw[this];rfl
  exact hk _ _ _ h hb
end
section
variable {ι:Type} (E:dW ι)
theorem Hu{w:World}(h:E.live w):mz E.ty E.Wg w jE:=by
 obtain⟨st,sm,h⟩:=h
 exact⟨_,_,h,by simp,by simp⟩
theorem pz{w:World}(h:WgAt E.ty E.Wg w st sm):mz E.ty E.Wg w (some (i64 st),some (i32 sm)):=⟨_,_,h,by simp[i64],by simp[i32]⟩
theorem at7{w:World}(h:WgAt E.ty E.Wg w st sm):mz E.ty E.Wg w (none,some (i32 sm)):=⟨_,_,h,by simp,by simp[i32]⟩
variable {E}
theorem fB{Stop:Goroutine→Prop}{k:Frame→List Frame→Bl}{bs:List Nat}(h:EG E.P E.ty n fr iv k=some bs)(hb:∀b∈bs,b=E.Wg)
 (hk:∀od gk xA,k od gk=some xA→(∀b∈xA,b=E.Wg)→Stop (G od (gk++cs))):E.pure main Stop (G fr (iv++cs)):=by
 refine WS h hb (fun fr iv=>E.pure main Stop (G fr (iv++cs))) (fun od gk xA h1 h2=>⟨0,hk _ _ _ h1 h2⟩) fun fr iv od gk h1 ⟨m,hm⟩=>⟨m+1,rfl,_,fun w hw=>h1 cs main w (Hu E hw),hm⟩
theorem Pb{L:Nat→Option Obj}{pend d0:Nat}{os:List ι}{s:St}{k:Frame→List Frame→Bl}{bs:List Nat}(h:EG E.P E.ty n fr iv k=some bs)(hb:∀b∈bs,b=E.Wg)
 (hk:∀od gk xA,k od gk=some xA→(∀b∈xA,b=E.Wg)→TC E L Q pend false os d0 (G od (gk++cs)) s):TC E L Q pend false os d0 (G fr (iv++cs)) s:=
 WS h hb (fun fr iv=>TC E L Q pend false os d0 (G fr (iv++cs)) s) hk fun fr iv od gk h1 hT=>Ye rfl (fun w hw=>h1 cs true w (Hu E hw)) hT
def goR(P:Program)(ty:TypeId):Nat→Frame→List Frame→Bl
 |0,_,_=>none
 |n+1,fr,iv=>match Rx P ty jE fr iv with
  |some (.go od gk,[],[],[])=>goR P ty n od gk
  |some (.ret (.tuple ⟨[]⟩),[],[],[])=>some []
  |_=>none
theorem WQ{c:Frame}:∀ {n:Nat} {fr:Frame} {iv:List Frame} {bs:List Nat},goR P ty n fr iv=some bs→
 ∀(main:Bool) (T:Goroutine→Prop),T (G (c.finish (.tuple #[])) cs)→(∀g g',g.status= .running→g'.status= .running→(∀w,stepG P main g w= .go g' w #[])→T g'→T g)→T (G fr (iv++c::cs))
 |0,_,_,_,h,_,_,_,_=>by cases h
 |n+1,fr,iv,bs,h,main,T,hT,hs=>by
  simp only[goR] at h
  split at h
  ·rename_i od gk h0
   refine hs _ _ rfl rfl (fun w=>?_) (WQ h main T hT hs)
   have:=rM (W:=0) (w:=w) h0 (by simp) (.inl ⟨rfl,rfl⟩) (c::cs) main
   simp only[OV.is] at this
   rw[this];rfl
  ·rename_i h0
   refine hs _ _ rfl rfl (fun w=>?_) hT
   have:=rM (W:=0) (w:=w) h0 (by simp) (.inl ⟨rfl,rfl⟩) (c::cs) main
   simp only[OV.is] at this
   have h2:=this c cs rfl
   rw[h2];rfl
  cases h
def RP:List Event→Bool
 | []=>true
 |e::l=>e.mute&&RP l
def goQ(P:Program)(ty:TypeId):Nat→Nat→Frame→List Frame→Bl
 |0,_,_,_=>none
 |n+1,d,fr,iv=>match Rx P ty jE fr iv with
  |some (.go od gk,[],es,[])=>bif RP es then goQ P ty n (deafBehind d es.toArray) od gk else none
  |some (.aul,[],[],[])=>bif Nat.beq d 0 then some [] else none
  |_=>none
theorem RN:∀ {es:List Event},RP es=true→∀e∈es,e.mute=true
 | [],_,e,he=>by cases he
 |x::l,h,e,he=>by
  simp only[RP,Bool.and_eq_true] at h
  rcases List.mem_cons.1 he with rfl|he
  ·exact h.1
  exact RN h.2 e he
theorem WR{c:Frame}{q:Nat}(hc:c.mode= .returning∨∃ch,c.mode= .panicking [⟨ch,false,true⟩])(hq:QuitsD P q 0 (G c cs)):∀ {n d:Nat} {fr:Frame} {iv:List Frame} {bs:List Nat},goQ P ty n d fr iv=some bs→
 ∃q,QuitsD P q d (G fr (iv++c::cs))
 |0,_,_,_,_,h=>by cases h
 |n+1,d,fr,iv,bs,h=>by
  simp only[goQ] at h
  split at h
  ·rename_i od gk es h0
   cases hm:RP es with
   |false=>rw[hm] at h;cases h
   |true=>
   rw[hm] at h;simp only[cond_true] at h
   obtain⟨q',FU⟩:=WR hc hq h
   refine⟨q'+1,.inr ⟨rfl,_,es.toArray,fun e he=>RN hm e (by simpa using he),fun w=>?_,FU⟩⟩
   have:=rM (W:=0) (w:=w) h0 (by simp) (.inl ⟨rfl,rfl⟩) (c::cs) false
   simp only[OV.is] at this
   rw[this];rfl
  ·rename_i h0
   cases hd:Nat.beq d 0 with
   |false=>rw[hd] at h;cases h
   |true=>
   have:d=0:=Nat.eq_of_beq_eq_true hd
   subst this
   refine⟨q+1,.ctl rfl (fun w=>?_) hq⟩
   have:=rM (W:=0) (w:=w) h0 (by simp) (.inl ⟨rfl,rfl⟩) (c::cs) false
   simp only[OV.is] at this
   have h2:=this c cs rfl hc
   rw[h2];rfl
  cases h
end
section
variable (P:Program) (ty:TypeId)
abbrev c64(a b:Int):Nm:=(some (i64 a),some (i32 b))
abbrev aCQ:List (Nat×Nat):=[(1,0),(7,1),(8,1),(2,0)]
def akT(f:Frame)(s:List Frame):Bl:=bif mayWake P (G f []) then EX P ty (c64 0 0) false (some (1,.u32,1)) aCQ f s (goQ P ty 300 1) else none
def asD(f:Frame)(s:List Frame):Bl:=EX P ty (c64 1 0) false (some (0,.u64,0)) [(8,0)] f s fun f s=>EG P ty 300 f s (akT P ty)
def asE(f:Frame)(s:List Frame):Bl:=EX P ty (c64 1 0) false none [(7,0)] f s fun f s=>EG P ty 300 f s (asD P ty)
def Xj(f:Frame)(s:List Frame)(v wt:Nat):Bl:=
 EX P ty (c64 (((v+1:Nat):Int)*KK+(wt:Int)) 0) false (some (0,.u64,(v:Int)*KK+(wt:Int))) [(7,0),(8,0)] f s fun f s=>bif Nat.beq v 0&&Nat.beq wt 1 then EG P ty 300 f s (asE P ty) else goQ P ty 300 1 f s
def asF(mx:Nat)(f:Frame)(s:List Frame):Bl:=alk (fun v=>both (Xj P ty f s v 0) (Xj P ty f s v 1)) (List.range mx)
def asC(mx:Nat)(f:Frame)(s:List Frame):Bl:=EX P ty jE true none [(1,0)] f s fun f s=>EG P ty 300 f s (asF P ty mx)
def asB(mx:Nat)(f:Frame)(s:List Frame):Bl:=EX P ty jE true none [(3,0)] f s fun f s=>EG P ty 300 f s (asC P ty mx)
def yd(mx:Nat)(f:Frame):Bl:=EG P ty 300 f [] (asB P ty mx)
def asG(f:Frame)(s:List Frame):Bl:=EX P ty jE true none [(4,0)] f s (goR P ty 300)
def aaq(f:Frame)(s:List Frame):Bl:=EX P ty jE true none [(2,0)] f s fun f s=>EG P ty 300 f s (asG P ty)
def asy(f:Frame)(s:List Frame):Bl:=EX P ty (c64 0 0) false none [(7,0)] f s fun f s=>EG P ty 300 f s (aaq P ty)
def aIt(c:Nm)(f:Frame)(s:List Frame):Bl:=match Rx P ty c f s with
 |some (.block,[],[],bs)=>some bs
 |_=>none
def asz(f:Frame)(s:List Frame):Bl:=both (aIt P ty (none,some (i32 0)) f s) (EX P ty (c64 0 1) false (some (1,.u32,0)) aCQ f s fun f s=>EG P ty 300 f s (asy P ty))
def asx(f:Frame)(s:List Frame):Bl:=EX P ty jE true none [(6,1)] f s fun f s=>EG P ty 300 f s (asz P ty)
def asA(anT:Frame→List Frame→Bl)(vs:Nat)(f:Frame)(s:List Frame):Bl:=
 both (EX P ty (c64 ((vs:Int)*KK) 0) false (some (0,.u64,(vs:Int)*KK+1)) [(7,0),(8,0)] f s fun f s=>EG P ty 300 f s (asx P ty))
  (alk (fun v:Nat=>EX P ty (c64 ((v:Int)*KK) 0) false none [(7,0)] f s fun f s=>EG P ty 300 f s anT) (List.range vs))
def TA:Nat→Frame→List Frame→Bl
 |0,f,s=>EX P ty (c64 0 0) false none [(7,0)] f s fun f s=>EG P ty 300 f s (aaq P ty)
 |b+1,f,s=>both (EX P ty (c64 0 0) false none [(7,0)] f s fun f s=>EG P ty 300 f s (aaq P ty))
  (alk (fun v:Nat=>EX P ty (c64 (((v+1:Nat):Int)*KK) 0) false none [(7,0)] f s fun f s=>EG P ty 300 f s (asA P ty (TA b) (v+1))) (List.range (b+1)))
def B2(mx:Nat)(f:Frame):Bl:=EG P ty 300 f [] fun f s=>EX P ty jE true none [(1,0)] f s fun f s=>EG P ty 300 f s (TA P ty mx)
def I7(v:Nat)(f:Frame):Bl:=
 EG P ty 300 f [] fun f s=>EX P ty jE true none [(1,0)] f s fun f s=>EG P ty 300 f s fun f s=>
  EX P ty (c64 ((v:Int)*KK) 0) false (some (0,.u64,((v+1:Nat):Int)*KK)) [(7,0),(8,0)] f s fun f s=>EG P ty 300 f s fun f s=>
   bif Nat.beq v 0 then EX P ty jE false none [(5,1)] f s fun f s=>EG P ty 300 f s fun f s=>EX P ty jE true none [(2,0)] f s (goR P ty 300)
   else EX P ty jE true none [(2,0)] f s (goR P ty 300)
end
section
variable {ι:Type} {E:dW ι}
section leave
variable {c:Frame} {cs:List Frame} (hc:c.mode= .returning∨∃ch,c.mode= .panicking [⟨ch,false,true⟩]) {q0:Nat} (hq:QuitsD E.P q0 0 (G c cs))
include hc hq
theorem akS{bs:List Nat}(h:akT E.P E.ty f s=some bs)(hb:∀b∈bs,b=E.Wg):E.D4 (G f (s++c::cs)):=by
 unfold akT at h
 cases hm:mayWake E.P (G f []) with
 |false=>rw[hm] at h;cases h
 |true=>
 rw[hm] at h;simp only[cond_true] at h
 obtain⟨f',s',xA,h1,h2,h3⟩:=gT h hb
 exact⟨rfl,hm,_,fun w hw=>h3 _ _ w (.inr (pz E hw)),WR hc hq h1⟩
theorem akU{bs:List Nat}(h:asD E.P E.ty f s=some bs)(hb:∀b∈bs,b=E.Wg):E.D3 (G f (s++c::cs)):=by
 obtain⟨f',s',xA,h1,h2,h3⟩:=gT h hb
 exact⟨rfl,_,fun w hw=>h3 _ _ w (.inr (pz E hw)),fB h1 h2 fun _ _ _ k1 k2=>akS hc hq k1 k2⟩
theorem akV{bs:List Nat}(h:asE E.P E.ty f s=some bs)(hb:∀b∈bs,b=E.Wg):E.D2 (G f (s++c::cs)):=by
 obtain⟨f',s',xA,h1,h2,h3⟩:=gT h hb
 exact⟨rfl,_,fun w hw=>h3 _ _ w (.inr (pz E hw)),fB h1 h2 fun _ _ _ k1 k2=>akU hc hq k1 k2⟩
theorem akW{bs:List Nat}(h:asF E.P E.ty E.max f s=some bs)(hb:∀b∈bs,b=E.Wg):E.D1 (G f (s++c::cs)):=by
 refine⟨rfl,fun v wt hwt hv=>?_⟩
 obtain⟨a,h1,h2⟩:=F7 h hb v (List.mem_range.2 hv)
 have key:∃a,Xj E.P E.ty f s v wt=some a∧∀b∈a,b=E.Wg:=by
  obtain⟨k1,k2⟩:=B8 h1 h2
  match wt,hwt with
  |0,_=>exact k1
  |1,_=>exact k2
 obtain⟨a',k1,k2⟩:=key
 obtain⟨f',s',xA,j1,j2,j3⟩:=gT k1 k2
 refine⟨_,fun w hw=>j3 _ _ w (.inr (pz E hw)),fun hh=>?_,fun hh=>?_⟩
 ·obtain⟨rfl,rfl⟩:=hh
  exact fB j1 j2 fun _ _ _ k1 k2=>akV hc hq k1 k2
 have:(Nat.beq v 0&&Nat.beq wt 1)=false:=by
  cases hx:(Nat.beq v 0&&Nat.beq wt 1) with
  |false=>rfl
  |true=>
   simp only[Bool.and_eq_true] at hx
   exact absurd ⟨Nat.eq_of_beq_eq_true hx.1,Nat.eq_of_beq_eq_true hx.2⟩ hh
 rw[this] at j1;simp only[cond_false] at j1
 exact WR hc hq j1
theorem akR{bs:List Nat}(h:asC E.P E.ty E.max f s=some bs)(hb:∀b∈bs,b=E.Wg):E.K1 (G f (s++c::cs)):=by
 obtain⟨f',s',xA,h1,h2,h3⟩:=gT h hb
 exact⟨rfl,_,fun w=>h3 _ _ w (.inl ⟨rfl,rfl⟩),fB h1 h2 fun _ _ _ k1 k2=>akW hc hq k1 k2⟩
theorem akQ{bs:List Nat}(h:asB E.P E.ty E.max f s=some bs)(hb:∀b∈bs,b=E.Wg):E.R0 (G f (s++c::cs)):=by
 obtain⟨f',s',xA,h1,h2,h3⟩:=gT h hb
 exact⟨rfl,_,fun w=>h3 _ _ w (.inl ⟨rfl,rfl⟩),fB h1 h2 fun _ _ _ k1 k2=>akR hc hq k1 k2⟩
theorem I6{bs:List Nat}(h:yd E.P E.ty E.max f=some bs)(hb:∀b∈bs,b=E.Wg):E.pure false E.R0 (G f (c::cs)):=
 fB (iv:=[]) h hb fun _ _ _ k1 k2=>akQ hc hq k1 k2
end leave
section close
variable {c:Frame} {cs:List Frame} {st:St} (hT:eJ E.P false E.KO (G (c.finish (.tuple #[])) cs) st)
include hT
theorem akX{bs:List Nat}(h:asG E.P E.ty f s=some bs)(hb:∀b∈bs,b=E.Wg):E.Aq st (G f (s++c::cs)):=by
 obtain⟨f',s',xA,h1,h2,h3⟩:=gT h hb
 have key:=WQ (c:=c) (cs:=cs) h1 false (fun g=>eJ E.P false E.KO g st) hT fun g g' hg hg' bW hT'=>(dY _ _ _).go hg hg' bW hT'
 obtain⟨tr,ir,hle,ht⟩:=key
 exact⟨rfl,_,fun w=>h3 _ _ w (.inl ⟨rfl,rfl⟩),tr,ir,hle,ht⟩
theorem I5{bs:List Nat}(h:aaq E.P E.ty f s=some bs)(hb:∀b∈bs,b=E.Wg):E.Ke st (G f (s++c::cs)):=by
 obtain⟨f',s',xA,h1,h2,h3⟩:=gT h hb
 exact⟨rfl,_,fun w=>h3 _ _ w (.inl ⟨rfl,rfl⟩),fB h1 h2 fun _ _ _ k1 k2=>akX hT k1 k2⟩
theorem akN{bs:List Nat}(h:asy E.P E.ty f s=some bs)(hb:∀b∈bs,b=E.Wg):E.W4 st (G f (s++c::cs)):=by
 obtain⟨f',s',xA,h1,h2,h3⟩:=gT h hb
 exact⟨rfl,_,fun w hw=>h3 _ _ w (.inr (pz E hw)),fB h1 h2 fun _ _ _ k1 k2=>I5 hT k1 k2⟩
theorem akO{bs:List Nat}(h:asz E.P E.ty f s=some bs)(hb:∀b∈bs,b=E.Wg):E.W3 st (G f (s++c::cs)):=by
 obtain⟨⟨b1,k1,k2⟩,b2,k3,k4⟩:=B8 h hb
 obtain⟨f',s',xA,h1,h2,h3⟩:=gT k3 k4
 refine⟨rfl,rfl,fun w n hw=>?_,_,fun w hw=>h3 _ _ w (.inr (pz E hw)),fB h1 h2 fun _ _ _ k1 k2=>akN hT k1 k2⟩
 unfold aIt at k1
 split at k1<;>try (cases k1;done)
 rename_i h0
 simp only[Option.some.injEq] at k1;subst k1
 have:=rM h0 k2 (w:=w) (.inr (at7 E hw)) (c::cs) false
 simp only[OV.is] at this
 rw[this];rfl
theorem akM{bs:List Nat}(h:asx E.P E.ty f s=some bs)(hb:∀b∈bs,b=E.Wg):E.Wr st (G f (s++c::cs)):=by
 obtain⟨f',s',xA,h1,h2,h3⟩:=gT h hb
 exact⟨rfl,_,fun w=>h3 _ _ w (.inl ⟨rfl,rfl⟩),fB h1 h2 fun _ _ _ k1 k2=>akO hT k1 k2⟩
theorem akP{anT:Frame→List Frame→Bl}{als:Goroutine→Prop}(hm:∀f s bs,anT f s=some bs→(∀b∈bs,b=E.Wg)→als (G f (s++c::cs))){vs:Nat}{bs:List Nat}(h:asA E.P E.ty anT vs f s=some bs)(hb:∀b∈bs,b=E.Wg):
 E.W2 (E.pure false als) st vs (G f (s++c::cs)):=by
 obtain⟨⟨b1,k1,k2⟩,b2,k3,k4⟩:=B8 h hb
 obtain⟨f',s',xA,h1,h2,h3⟩:=gT k1 k2
 refine⟨rfl,⟨_,fun w hw=>h3 _ _ w (.inr (pz E hw)),fB h1 h2 fun _ _ _ k1 k2=>akM hT k1 k2⟩,fun v hv=>?_⟩
 obtain⟨a,j1,j2⟩:=F7 k3 k4 v (List.mem_range.2 hv)
 obtain⟨f2,s2,bs2,i1,i2,i3⟩:=gT j1 j2
 exact⟨_,fun w hw=>i3 _ _ w (.inr (pz E hw)),fB i1 i2 fun _ _ _ k1 k2=>hm _ _ _ k1 k2⟩
theorem Tz:∀ {b:Nat} {f:Frame} {s:List Frame} {bs:List Nat},TA E.P E.ty b f s=some bs→(∀b∈bs,b=E.Wg)→E.W1 st b (G f (s++c::cs))
 |0,f,s,bs,h,hb=>by
  simp only[TA] at h
  obtain⟨f',s',xA,h1,h2,h3⟩:=gT h hb
  exact⟨rfl,_,fun w hw=>h3 _ _ w (.inr (pz E hw)),fB h1 h2 fun _ _ _ k1 k2=>I5 hT k1 k2⟩
 |b+1,f,s,bs,h,hb=>by
  simp only[TA] at h
  obtain⟨⟨b1,k1,k2⟩,b2,k3,k4⟩:=B8 h hb
  obtain⟨f',s',xA,h1,h2,h3⟩:=gT k1 k2
  refine⟨rfl,⟨_,fun w hw=>h3 _ _ w (.inr (pz E hw)),fB h1 h2 fun _ _ _ k1 k2=>I5 hT k1 k2⟩,fun v hv1 hv2=>?_⟩
  obtain⟨u,rfl⟩:∃u,v=u+1:=⟨v-1,by omega⟩
  obtain⟨a,j1,j2⟩:=F7 k3 k4 u (List.mem_range.2 (by omega))
  obtain⟨f2,s2,bs2,i1,i2,i3⟩:=gT j1 j2
  exact⟨_,fun w hw=>i3 _ _ w (.inr (pz E hw)),fB i1 i2 fun _ _ _ k1 k2=>akP hT (als:=E.W1 st b) (fun _ _ _ m1 m2=>Tz m1 m2) k1 k2⟩
theorem I4{bs:List Nat}(h:B2 E.P E.ty E.max f=some bs)(hb:∀b∈bs,b=E.Wg):E.closes st (G f (c::cs)):=
 fB (iv:=[]) h hb fun _ _ _ k1 k2=>by
  obtain⟨f',s',xA,h1,h2,h3⟩:=gT k1 k2
  exact⟨rfl,_,fun w=>h3 _ _ w (.inl ⟨rfl,rfl⟩),fB h1 h2 fun _ _ _ k1 k2=>Tz hT k1 k2⟩
end close
theorem Nd{L:Nat→Option Obj}{os:List ι}{s:St}{c:Frame}{bs:List Nat}(h:I7 E.P E.ty os.length f=some bs)(hb:∀b∈bs,b=E.Wg)(Kq:os.length <E.max)
 (hT:TC E L Q 1 false os 0 (G (c.finish (.tuple #[])) cs) s):TC E L Q 0 false os 0 (G f (c::cs)) s:=by
 have qN:∀ {f:Frame} {iv:List Frame} {bs:List Nat},EX E.P E.ty jE true none [(2,0)] f iv (goR E.P E.ty 300)=some bs→(∀b∈bs,b=E.Wg)→TC E L Q 1 false os 1 (G f (iv++c::cs)) s:=by
  intro f iv bs h hb
  obtain⟨f',s',xA,h1,h2,h3⟩:=gT h hb
  refine FL (mi:=1) (d':=0) rfl rfl (fun w st sm hw hz _=>⟨w,h3 _ _ w (.inl ⟨rfl,rfl⟩),eI.refl w,by obtain⟨rfl,rfl⟩:=hz rfl;exact hw⟩) (by intro e he;simp[Xd] at he;subst he;exact .inr (.inl rfl)) rfl id ?_
  exact WQ (c:=c) (cs:=cs) h1 true (fun g=>TC E L Q 1 false os 0 g s) hT fun g g' hg hg' bW hT'=>Ye hg (fun w _=>bW w) hT'
 refine Pb (iv:=[]) h hb fun f1 s1 b1 k1 k2=>?_
 obtain⟨f',s',xA,h1,h2,h3⟩:=gT k1 k2
 refine FL (mi:=0) (d':=1) rfl rfl (fun w st sm hw hz _=>⟨w,h3 _ _ w (.inl ⟨rfl,rfl⟩),eI.refl w,by obtain⟨rfl,rfl⟩:=hz rfl;exact hw⟩) (by intro e he;simp[Xd] at he;subst he;exact .inl rfl) rfl id ?_
 refine Pb h1 h2 fun f2 s2 b2 k1 k2=>?_
 obtain⟨f',s',xA,h1,h2,h3⟩:=gT k1 k2
 refine FL (mi:=1) (d':=1) rfl rfl (fun w st sm hw hz _=>⟨_,h3 _ _ w (.inr ?_),eI.set w 0 _,?_⟩) (by
  intro e he;simp[Xd] at he
  rcases he with rfl|rfl<;>exact oz 0 _) rfl (fun _=>Kq) ?_
 ·obtain⟨rfl,rfl⟩:=hz rfl
  exact pz E hw
 ·obtain⟨rfl,rfl⟩:=hz rfl
  exact Go.ConcR.WgAt.setSt hw _
 refine Pb h1 h2 fun f3 s3 b3 k1 k2=>?_
 cases hz:Nat.beq os.length 0 with
 |false=>
  rw[hz] at k1;simp only[cond_false] at k1
  exact qN k1 k2
 |true=>
  rw[hz] at k1;simp only[cond_true] at k1
  obtain⟨f',s',xA,h1,h2,h3⟩:=gT k1 k2
  refine amS rfl (fun w hw=>h3 _ _ w (.inr (Hu E hw)))<|Pb h1 h2 fun f4 s4 b4 k1 k2=>qN k1 k2
end
def CA(P:Program):Class:=fun main T=>Closed P main T
def ae1:Code→Nat
 | .seq a b=>ae1 a+ae1 b+1
 |_=>0
def gJ(l:List Code):List Code:=l.flatMap iW
section
variable {P:Program} {main:Bool} {T:Goroutine→St→Prop} {b:Frame} {k:List Item} {cs:List Frame} {a:Act} {s:St} {n LF:Nat} {D:List Deferred} {call:cv} {ops:Array Oper}
 {ρ:aV} {ce e:Env} {m:Mem} {F:Nat×Obj→Prop} {R:Nat→Option Obj}
abbrev On(T:Goroutine→St→Prop)(b:Frame)(a:Act)(l:List Code)(k:List Item)(cs:List Frame)(s:St):Prop:=T (G (aM b a (l.map .code++k)) cs) s
theorem oe(hT:Closed P main T){c0:Code}:∀ {l:List Code},gJ l=c0::rest→(∀l',gJ l'=rest→T (G (aM b a (.code c0::(l'.map .code++k))) cs) s)→On T b a l k cs s:=by
 intro l
 generalize hn:(l.map ae1).sum=q
 induction q using Nat.strongRecOn generalizing l with
 |_ q ih=>
  intro hl h
  cases l with
  |nil=>cases hl
  |cons c l=>
   cases hc:c with
   |seq x y=>
    subst hc
    refine hT.go rfl rfl (g':=G (aM b a ((x::y::l).map .code++k)) cs) (fun w=>by simp[G,stepG,stepG.exec,aM])<|ih ((x::y::l).map ae1).sum ?_ rfl ?_ h
    ·rw[←hn];simp[ae1];omega
    rw[←hl];simp[gJ,iW]
   |_=>
    subst hc
    simp only[gJ,List.flatMap_cons,iW,List.singleton_append,List.cons.injEq] at hl
    obtain⟨rfl,hl⟩:=hl
    exact h l hl
theorem dM(hT:Closed P main T)(hl:gJ l= .region id ops false::rest)(h:∀l',gJ l'=rest→T (G (aM b a (.inRegion ops (List.range ops.size)::(l'.map .code++k))) cs) s):On T b a l k cs s:=
 oe hT hl fun l' Ah=>hT.go rfl rfl (g':=G (aM b a (.inRegion ops (List.range ops.size)::(l'.map .code++k))) cs) (fun w=>by simp[G,stepG,stepG.exec,aM]) (h l' Ah)
theorem Bo(hT:Closed P main T){c:Operand}{x y:Code}{t:Bool}(hl:gJ l= .cond c x y::rest)(hc:a.eval c= .bool t)(h:∀l',gJ l'=rest→T (G (aM b a (.code (if t then x else y)::(l'.map .code++k))) cs) s):On T b a l k cs s:=
 oe hT hl fun l' Ah=>hT.go rfl rfl (g':=G (aM b a (.code (if t then x else y)::(l'.map .code++k))) cs) (fun w=>by
  have he:=kS b a (.code (.cond c x y)::(l'.map .code++k))
  simp only[aM] at he
  simp only[G,stepG,stepG.exec,aM,he,hc]) (h l' Ah)
theorem wF(hT:Closed P main T){c:Code}(hl:gJ l= .block id c::rest)(h:∀l',gJ l'=rest→On T b a [c] (.inBlock id::(l'.map .code++k)) cs s):On T b a l k cs s:=
 oe hT hl fun l' Ah=>hT.go rfl rfl (g':=G (aM b a (.code c:: .inBlock id::(l'.map .code++k))) cs) (fun w=>by simp[G,stepG,stepG.exec,aM]) (show T (G (aM b a (.code c:: .inBlock id::(l'.map .code++k))) cs) s from h l' Ah)
theorem Dy(hT:Closed P main T)(h:T (G (aM b a k) cs) s):T (G (aM b a (.inBlock id::k)) cs) s:=
 hT.go rfl rfl (g':=G (aM b a k) cs) (fun w=>by simp[G,stepG,stepG.exec,aM]) h
theorem Oi(hT:Closed P main T){c:Code}(hl:gJ l= .loop c::rest)(h:∀l',gJ l'=rest→On T b a [c] (.inLoop c::(l'.map .code++k)) cs s):On T b a l k cs s:=
 oe hT hl fun l' Ah=>hT.go rfl rfl (g':=G (aM b a (.code c:: .inLoop c::(l'.map .code++k))) cs) (fun w=>by simp[G,stepG,stepG.exec,aM]) (show T (G (aM b a (.code c:: .inLoop c::(l'.map .code++k))) cs) s from h l' Ah)
theorem AD(hT:Closed P main T){c:Code}(h:On T b a [c] (.inLoop c::k) cs s):T (G (aM b a (.inLoop c::k)) cs) s:=
 hT.go rfl rfl (g':=G (aM b a (.code c:: .inLoop c::k)) cs) (fun w=>by simp[G,stepG,stepG.exec,aM]) h
theorem Pr(hT:Closed P main T)(h:T (G (aM b a k) cs) s):T (G (aM b a (.code .skip::k)) cs) s:=
 hT.go rfl rfl (g':=G (aM b a k) cs) (fun w=>by simp[G,stepG,stepG.exec,aM]) h
theorem Ps(hT:Closed P main T){k':List Item}(hk:exitTo id k=some k')(h:T (G (aM b a k') cs) s):T (G (aM b a (.code (.exit id)::k)) cs) s:=
 hT.go rfl rfl (g':=G (aM b a k') cs) (fun w=>by simp[G,stepG,stepG.exec,aM,hk]) h
theorem ia(hT:Closed P main T)(h:T (G (aM b a k) cs) s):T (G (aM b a (.inRegion ops []::k)) cs) s:=
 hT.go rfl rfl (g':=G (aM b a k) cs) (fun w=>by simp[G,stepG,stepG.exec,aM]) h
theorem qY(id:Nat):∀(l:List Code) (k:List Item),exitTo id (l.map .code++k)=exitTo id k
 | [],k=>rfl
 |c::l,k=>by
  rw[List.map_cons,List.cons_append]
  exact qY id l k
theorem tx(hT:Closed P main T){rest:List Nat}{o:Oper}(ho:ops[i]?=some o) (hw:Region.wanted o (yielded ops a.tmps)=true) (hk:b.kind≠ .early) (hb:b.roundOf=none)
 (h:bS P (execOp a.eval o) s (fun nx s'=>∃v,nx= .value v∧T (G (aM b (a.put o.dst v) (.inRegion ops rest::k)) cs) s') (fun _ _=>False)):T (G (aM b a (.inRegion ops (i::rest)::k)) cs) s:=by
 have jN:(b.kind==CallKind.early)=false:=by simpa using hk
 have gF:∀w,stepG P main (G (aM b a (.inRegion ops (i::rest)::k)) cs) w=stepG.apply P true (aM b a (.inRegion ops (i::rest)::k)) cs none (execOp a.eval o) w:=by
  intro w
  have he:=kS b a (.inRegion ops (i::rest)::k)
  simp only[aM] at he
  simp only[G,stepG,stepG.exec,aM,ho,Option.map_some,Option.getD_some,hw,if_true,stepG.oper,Frame.oper?,he]
  rw[hb]
 refine hT.step _ _ rfl fun w p6=>?_
 obtain⟨r,es,hr,hl⟩:=gM _ _ _ _ w #[] h p6
 rw[Array.empty_append] at hr
 have mW:=gF w
 simp only[stepG.apply,if_true,hr] at mW
 simp only[aM,jN,Bool.false_eq_true,if_false] at mW
 cases r with
 |ok nx w'=>
  obtain⟨s',ht,v,rfl,hv⟩:=hl
  simp only[GStep.after,Array.append_empty] at mW
  have mG:=fK b a ops i rest k v
  rw[ho] at mG
  simp only[Option.bind_some] at mG
  rw[←mG] at hv
  exact⟨_,_,_,s',mW,rfl,ht.sub (iG P b.fn es),hv⟩
 |halt hh w'=>
  obtain⟨s',ht,hu⟩:=hl
  exact hu.elim
theorem dC(o:Oper)(f:Nat→Option Bool)(h:o.guard=none):Region.wanted o f=true:=by unfold Region.wanted;rw[h]
end
def St.freeze(s:St):St:=⟨fun b=>match s.rw.find? (fun x=>x.1==b) with
 |some x=>some x.2
 |none=>s.ro b,[]⟩
theorem oY{l:List (Nat×Obj)}{b:Nat}{x:Nat×Obj}(h:l.find? (fun x=>x.1==b)=some x):x∈l∧x.1=b:=
 ⟨List.mem_of_find?_eq_some h,by simpa using List.find?_some h⟩
theorem xk{l:List (Nat×Obj)}(hn:(l.map (·.1)).Nodup){b:Nat}(h:(b,o)∈l):l.find? (fun x=>x.1==b)=some (b,o):=by
 induction l with
 |nil=>cases h
 |cons y l ih=>
  rw[List.map_cons,List.nodup_cons] at hn
  rcases List.mem_cons.1 h with rfl|h'
  ·simp
  have:y.1≠b:=fun e=>hn.1 (e▸List.mem_map.2 ⟨_,h',rfl⟩)
  rw[List.find?_cons_of_neg (by simpa using this)]
  exact ih hn.2 h'
theorem St.Ds(s:St):s.freeze.le s:=by
 refine⟨s.rw,by simp[St.freeze],fun b o h=>?_⟩
 simp only[St.freeze] at h
 split at h
 ·rename_i x hx
  obtain⟨h1,h2⟩:=oY hx
  cases h
  subst h2
  exact .inr h1
 exact .inl h
theorem St.n9{s:St}{b:Nat}(h:s.ro b=some o)(ha:∀b o,(b,o)∈s.rw→s.ro b=none):s.freeze.ro b=some o:=by
 simp only[St.freeze]
 split
 ·rename_i x hx
  obtain⟨h1,h2⟩:=oY hx
  subst h2
  rw[ha x.1 x.2 h1] at h;cases h
 exact h
theorem St.tJ{s:St}{b:Nat}(h:(b,o)∈s.rw)(hn:(s.rw.map (·.1)).Nodup):s.freeze.ro b=some o:=by
 simp only[St.freeze,xk hn h]
section
variable {P:Program} {ρ:aV} {m:Mem} {F:Nat×Obj→Prop} {R:Nat→Option Obj} {s:St}
theorem Closed.jP(hT:Closed P main T)(hs:g.status= .running)(h:(∃w,aS s w)→T g s):T g s:=by
 by_cases ha:∃w,aS s w
 ·exact h ha
 exact hT.step _ _ hs fun w hw=>absurd ⟨w,hw⟩ ha
end
section
variable {P:Program} {main:Bool} {T:Goroutine→St→Prop} {b:Frame} {k:List Item} {cs:List Frame} {a:Act} {s:St} {n LF:Nat} {D:List Deferred} {call:cv} {ops:Array Oper}
 {ρ:aV} {ce e:Env} {m:Mem} {F:Nat×Obj→Prop} {R:Nat→Option Obj}
theorem Ru(hT:Closed P main T){rest:List Nat}{o:Oper}(ho:ops[i]?=some o) (hg:o.guard=none) (hk:b.kind≠ .early) (hb:b.roundOf=none) {f:FuncId} (az:o.op= .call ⟨.value (.func f),xs,ats⟩) (hf:FF P f)
 (h:T (G (Frame.enter P f (xs.map a.eval) .normal) (aM b a (.inRegion ops (i::rest)::k)::cs)) s):T (G (aM b a (.inRegion ops (i::rest)::k)) cs) s:=by
 have jN:(b.kind==CallKind.early)=false:=by simpa using hk
 have hw:Region.wanted o (yielded ops a.tmps)=true:=dC o _ hg
 have wQ:bS P (execOp a.eval o) s (fun nx s'=>nx= .enter f (xs.map a.eval)∧s'=s) (fun _ _=>False):=by
  have e1:a.eval (.func f)= .func (.func f) #[] #[]:=rfl
  simp only[execOp,az,resolve,e1,Deferred.ofValue,aa,ae,invoke]
  have:(#[]++xs.map a.eval:Array Value)++ #[]=xs.map a.eval:=by simp
  rw[this]
  exact kp hf ⟨rfl,rfl⟩
 have gF:∀w,stepG P main (G (aM b a (.inRegion ops (i::rest)::k)) cs) w=stepG.apply P true (aM b a (.inRegion ops (i::rest)::k)) cs none (execOp a.eval o) w:=by
  intro w
  have he:=kS b a (.inRegion ops (i::rest)::k)
  simp only[aM] at he
  simp only[G,stepG,stepG.exec,aM,ho,Option.map_some,Option.getD_some,hw,if_true,stepG.oper,Frame.oper?,he]
  rw[hb]
 refine hT.step _ _ rfl fun w p6=>?_
 obtain⟨r,es,hr,hl⟩:=gM _ _ _ _ w #[] wQ p6
 rw[Array.empty_append] at hr
 have mW:=gF w
 simp only[stepG.apply,if_true,hr] at mW
 simp only[aM,jN,Bool.false_eq_true,if_false] at mW
 cases r with
 |ok nx w'=>
  obtain⟨s',ht,rfl,rfl⟩:=hl
  simp only[GStep.after,Array.append_empty] at mW
  exact⟨_,_,_,_,mW,rfl,ht.sub (iG P b.fn es),h⟩
 |halt hh w'=>
  obtain⟨s',ht,hu⟩:=hl
  exact hu.elim
def cS(P:Program):Frame:={(default:Frame) with fn:=P.funcs.size,defers:=[],mode:= .panicking [goexitEntry]}
theorem Re(P:Program):QuitsD P 1 0 (G (cS P) []):=by
 have hc:(cS P).catches P=false:=by
  simp[Frame.catches,cS]
  rfl
 refine .ctl (g':={(G (cS P) []) with status:= .finished}) rfl (fun w=>?_) ⟨rfl,rfl⟩
 have bW:stepG P false (G (cS P) []) w=unwind P false (cS P) [] none w:=rfl
 rw[bW]
 unfold unwind
 have h1:(cS P).defers=[]:=rfl
 have h2:(cS P).mode= .panicking [goexitEntry]:=rfl
 simp only[h1,h2,hc,Bool.false_eq_true,if_false]
 simp[goexitEntry,G]
theorem oB{fn:Func}(hm:fr.mode= .returning)(hd:fr.defers=[])(hk:fr.kind= .deferred)(hf:P.funcs[fr.fn]?=some fn) (hr:fn.results= #[]):QuitsD P 2 0 (G fr [cS P]):=by
 refine .ctl rfl (fun w=>?_) (Re P)
 have h1:∀tm,results fn tm=Sem.pure (.tuple #[]):=by intro tm;simp[results,hr];rfl
 rcases fr with ⟨fn',tmps,todo,defers,mode,kind,ro⟩
 simp only at hm hd hk hf
 subst hm hd hk
 simp only[G,stepG,unwind,hf,h1,Sem.runT,seen_none,GStep.after,doReturn,cS,goexitEntry,Array.append_empty]
end
structure TR where
 f:FuncId
 n:Nat
 cl:List Code
 o7:Array Oper
 o:Oper
 sc:Operand
 sv:Operand
 done:FuncId
def goE(P:Program)(ty:TypeId):Nat→Frame→List Frame→Option (Frame×List Frame)
 |0,fr,iv=>some (fr,iv)
 |n+1,fr,iv=>match Rx P ty jE fr iv with
  |some (.go od gk,[],[],[])=>goE P ty n od gk
  |_=>none
theorem WT{T:Goroutine→Prop}(hs:∀g g',g.status= .running→g'.status= .running→(∀w,stepG P main g w= .go g' w #[])→T g'→T g):∀ {n:Nat} {fr od:Frame} {iv gk:List Frame},goE P ty n fr iv=some (od,gk)→T (G od (gk++cs))→T (G fr (iv++cs))
 |0,fr,od,iv,gk,h,hT=>by simp only[goE,Option.some.injEq,Prod.mk.injEq] at h;obtain⟨rfl,rfl⟩:=h;exact hT
 |n+1,fr,od,iv,gk,h,hT=>by
  simp only[goE] at h
  split at h<;>try (cases h;done)
  rename_i f1 s1 h0
  refine hs _ _ rfl rfl (fun w=>?_) (WT hs h hT)
  have:=rM (W:=0) (w:=w) h0 (by simp) (.inl ⟨rfl,rfl⟩) cs main
  simp only[OV.is] at this
  rw[this];rfl
theorem Jf{f:FuncId}(hf:FF P f)(ca:Array Value)(w:World):stepG P main (born P {target:= .fn (.func f) ca,args:= #[]}) w= .go (G (Frame.enter P f (#[]++ca) .deferred) [cS P]) w #[]:=by
 obtain⟨fn,h1,h2,h3⟩:=hf.ff
 have bX:(callFunc f (#[]++ca)).runT P w #[]=(.ok (.enter f (#[]++ca)) w,#[]):=by
  show (Sem.program _).runT P w #[]=_
  simp only[Sem.runT,Sem.bind,h1,h2,h3,Bool.false_eq_true,if_false]
  rfl
 simp only[born,stepG,unwind,callDeferred,invoke,bX,GStep.after,seen_none,Bool.false_and,Bool.false_eq_true,if_false,Array.append_empty,G,cS]
structure Nl where
 f:FuncId
 n:Nat
 b:Frame
 q0:Array Oper
 o0:Oper
 rest:Code
 q1:Array Oper
 oc:Oper
 cx:Operand
 wait:FuncId
structure Nl.OK(P:Program)(ty:TypeId)(x:Nl):Prop where
 ff:Co P x.f=true
 fn:∃fn,P.funcs[x.f]?=some fn∧fn.results= #[]∧fn.norace=false
 bf:x.b.fn=x.f∧x.b.kind= .deferred∧x.b.roundOf=none
 enter:∀p1 p2:Value,goE P ty 3 (Frame.enter P x.f #[p1,p2] .deferred) []=some (Frame.enter P x.wait #[p1] .normal,[aM x.b (A x.n (fO 0 [p1,p2]) []) [.inRegion x.q0 [0],.code x.rest]])
 op0:x.q0[0]?=some x.o0
 rest:∃id,gJ [x.rest]=[.region id x.q1 false]
 size:x.q1.size=2
 op:x.q1[1]?=some x.oc∧x.oc.guard=none∧∃ats,x.oc.op= .call {callee:= .builtin .close,args:= #[x.cx],argTypes:=ats}
theorem gv(h:gJ l=[]):l=[]:=by
 cases l with
 |nil=>rfl
 |cons y l=>
  exfalso
  have:∀c:Code,iW c≠[]:=by
   intro c
   induction c with
   |seq p q ihp ihq=>simp[iW,ihp]
   |_=>simp[iW]
  simp only[gJ,List.flatMap_cons,List.append_eq_nil_iff] at h
  exact this y h.1
theorem Dw{b:Frame}(h:b.roundOf=none)(a:Act)(todo:List Item):aM b a todo=b.at a todo:=by simp[aM,Frame.at,h]
def Vk(P:Program):Sem Next→Nat→Option (Obj×Value)
 | .new o k,b=>match bx P (k b) with
  |some (.value v)=>some (o,v)
  |_=>none
 | .program k,b=>Vk P (k P) b
 |_,_=>none
theorem Hm{f:Nat→Value}{s:St}{K:Next→St→Prop}{E:Halt→St→Prop}(hK:∀b,¬s.knows b→K (.value (f b)) ⟨s.ro,(b,o)::s.rw⟩):∀(x:Sem Next),(∀b,Vk P x b=some (o,f b))→bS P x s K E:=by
 intro x
 induction x with
 |new o' k ih=>
  intro h b hb
  have h':=h b
  simp only[Vk] at h'
  split at h'<;>try (cases h';done)
  rename_i v hv
  simp only[Option.some.injEq,Prod.mk.injEq] at h'
  obtain⟨rfl,rfl⟩:=h'
  exact oM hv (hK b hb)
 |program k ih=>intro h;exact ih P h
 |_=>intro h;have:=h 0;simp[Vk] at this
structure sj where
 f:FuncId
 n:Nat
 fn:Func
 o0:Array Oper
 o1:Array Oper
 o2:Array Oper
 o3:Array Oper
 o4:Array Oper
 o5:Array Oper
 o6:Array Oper
 o7:Array Oper
 o8:Array Oper
 o9:Array Oper
 o10:Array Oper
 o11:Array Oper
 CY:Array Oper
 o13:Array Oper
 o14:Array Oper
 a1:Oper
 a2:Oper
 a6:Oper
 a7:Oper
 a9:Oper
 TQ:Oper
 lb:Code
 Ew:Code
 rb:Code
 u4:Code
 c4:Operand
 c12:Operand
 b0:Nat
 b1:Nat
 b2:Nat
 b3:Nat
 fin:List Code
 add:FuncId
 aqh:Operand
 sp:Operand
 sk:Operand
 rc:Operand
 wk:TR
 cl:Nl
 ty:TypeId
 mx:Nat
def cT(l:List Code)(i:Nat):Array Oper:=match l[i]? with
 |some (.region _ ops _)=>ops
 |_=> #[]
def eG(o:Array Oper)(i:Nat):Oper:=(o[i]?).getD default
def agB(l:List Code)(i:Nat):Nat×Code:=match l[i]? with
 |some (.block id (.loop c))=>(id,c)
 |_=>(0,.skip)
def aav(l:List Code)(i:Nat):Nat×Code:=match l[i]? with
 |some (.block id c)=>(id,c)
 |_=>(0,.skip)
def akF(l:List Code)(i:Nat):Operand:=match l[i]? with
 |some (.cond c _ _)=>c
 |_=> .func 0
def Jd(o:Oper):FuncId:=match o.op with
 | .call ⟨.value (.func f),_,_⟩=>f
 | .defer ⟨.value (.func f),_,_⟩=>f
 |_=>0
def asL(o:Oper)(i:Nat):Operand:=match o.op with
 | .call ⟨_,xs,_⟩=>(xs[i]?).getD (.func 0)
 |_=> .func 0
def aHG(o:Oper):Operand:=match o.op with
 | .go ⟨.value x,_,_⟩=>x
 |_=> .func 0
def asn(o:Oper):FuncId:=match o.op with
 | .makeFunc (.func f) _ _=>f
 |_=>0
def chanOf(o:Oper):Operand:=match o.op with
 | .recv _ c _=>c
 | .send c _=>c
 |_=> .func 0
def aua(o:Oper):Operand:=match o.op with
 | .send _ x=>x
 |_=> .func 0
def typeOf(o:Oper):TypeId:=match o.op with
 | .alloc t=>t
 |_=>0
def codeOf(P:Program)(f:FuncId):List Code:=match P.funcs[f]? with
 |some fn=>match fn.body with
  |some c=>iW c
  |none=>[]
 |none=>[]
def tmpsOf(P:Program)(f:FuncId):Nat:=match P.funcs[f]? with
 |some fn=>fn.ntmps
 |none=>0
def aum(P:Program)(f:FuncId):Code:=match P.funcs[f]? with
 |some fn=>match fn.body with
  |some (.seq _ c)=>c
  |_=> .skip
 |none=> .skip
def azf(P:Program)(f:FuncId)(mx:Nat):sj:=
 let l:=codeOf P f
 let lb:=agB l 4
 let ll:=iW lb.2
 let bb:=aav ll 2
 let bl:=iW bb.2
 let rb:=agB l 8
 let rl:=iW rb.2
 let rbb:=aav rl 2
 let rbl:=iW rbb.2
 let wf:=asn (eG (cT bl 2) 0)
 let wl:=codeOf P wf
 let cf:=asn (eG (cT l 5) 0)
 let cl:=codeOf P cf
 {f,n:=tmpsOf P f,fn:=(P.funcs[f]?).getD default,o0:=cT l 0,o1:=cT l 1,o2:=cT l 2,o3:=cT l 3,o4:=cT ll 0,o5:=cT bl 0,o6:=cT bl 1,o7:=cT bl 2,o8:=cT ll 3,
  o9:=cT l 5,o10:=cT l 6,o11:=cT l 7,CY:=cT rl 0,o13:=cT rbl 0,o14:=cT rbl 1,
  a1:=eG (cT l 1) 0,a2:=eG (cT l 2) 0,a6:=eG (cT bl 1) 0,a7:=eG (cT bl 2) 1,a9:=eG (cT l 5) 1,TQ:=eG (cT rl 0) 0,
  lb:=lb.2,Ew:=bb.2,rb:=rb.2,u4:=rbb.2,c4:=akF ll 1,c12:=akF rl 1,b0:=lb.1,b1:=bb.1,b2:=rb.1,b3:=rbb.1,fin:=(l.drop 9).dropLast,
  add:=Jd (eG (cT bl 1) 0),aqh:=asL (eG (cT bl 1) 0) 0,sp:=aHG (eG (cT bl 2) 1),sk:=aHG (eG (cT l 5) 1),rc:=chanOf (eG (cT rl 0) 0),
  wk:={f:=wf,n:=tmpsOf P wf,cl:=wl.dropLast,o7:=cT wl (wl.length-1),o:=eG (cT wl (wl.length-1)) 2,sc:=chanOf (eG (cT wl (wl.length-1)) 2),sv:=aua (eG (cT wl (wl.length-1)) 2),done:=Jd (eG (cT wl 0) 0)},
  cl:={f:=cf,n:=tmpsOf P cf,b:={(default:Frame) with fn:=cf,kind:= .deferred,roundOf:=none},q0:=cT cl 0,o0:=eG (cT cl 0) 0,rest:=aum P cf,q1:=cT cl 1,oc:=eG (cT cl 1) 1,cx:=asL (eG (cT cl 1) 1) 0,wait:=Jd (eG (cT cl 0) 0)},
  ty:=typeOf (eG (cT l 2) 0),mx}
theorem xR{k:Nat}:∀b∈List.replicate k W,b=W:=fun b hb=>(List.mem_replicate.1 hb).2
section
variable {gP:Os} {cD:Array (Nat×ByteArray)} {P:Program} {T:Goroutine→St→Prop} {b:Frame} {k:List Item} {cs:List Frame} {a:Act} {s:St} {n LF:Nat} {call:cv} {ops:Array Oper}
 {ρ:aV} {ce e:Env} {m:Mem} {x:sj} {Wg Ch:Nat} {L:Nat→Option Obj} {Q:Machine→Outcome→World→Trace→Prop}
theorem F5{rest:List Nat}{o:Oper}(ho:ops[i]?=some o) (hg:o.guard=none) (hk:b.kind≠ .early) (hb:b.roundOf=none) {y:Operand} (az:o.op= .go ⟨.value y,#[],ats⟩) {f:FuncId} (hy:a.eval y= .func (.func f) #[] ca) (w:World):
 stepG P main (G (aM b a (.inRegion ops (i::rest)::k)) cs) w= .spawn (G (aM b (a.put o.dst undef) (.inRegion ops rest::k)) cs) (born P {target:= .fn (.func f) ca,args:= #[]}) w #[]:=by
 have hw:Region.wanted o (yielded ops a.tmps)=true:=dC o _ hg
 have hx:execOp a.eval o=Sem.pure (.spawn {target:= .fn (.func f) ca,args:= #[]}):=by
  simp only[execOp,az,resolve,hy,Deferred.ofValue]
  show Sem.pure (Next.spawn {target:= .fn (.func f) ca,args:= #[]++Array.map a.eval #[]})=_
  simp
 rw[Dw hb,Dw hb]
 have:=stepG_spawn (P:=P) (main:=main) (b:=b) (a:=a) (k:=k) (cs:=cs) (w:=w) (w':=w) (d:={target:= .fn (.func f) ca,args:= #[]}) ho hw hk (rest:=rest) (by rw[hx];rfl) rfl
 rw[this,listed_none (by rw[hx];rfl)]
end
theorem ue:∀ {x:Sem α} {a:α},bx P x=some a→∀(w:World) (es:Array Event),x.runT P w es=(.ok a w,es)
 | .pure _,_,h,w,es=>by simp only[bx,Option.some.injEq] at h;subst h;rfl
 | .program k,_,h,w,es=>ue (x:=k _) h w es
def C0(P:Program):Class:=fun main T=>main=true∧∃gP cD Post,T=T0 P gP cD Post
theorem ye:∀main T,C0 P main T→Closed P main T:=by
 rintro _ _ ⟨rfl,gP,cD,Post,rfl⟩
 exact tb P gP cD Post
abbrev CP(P:Program):Class:=fun main T=>Closed P main T
theorem eP:∀main T,CP P main T→Closed P main T:=fun _ _ h=>h
abbrev Cells:=List (Nat×Obj)
variable {Φ:Value→Cells→Prop} {B X rw' rw:Cells}
def Sub(ro aJ:Nat→Option Obj):Prop:=∀b o,ro b=some o→aJ b=some o
theorem Sub.refl(ro:Nat→Option Obj):Sub ro ro:=fun _ _ h=>h
theorem Sub.trans{a b c:Nat→Option Obj}(h:Sub a b)(k:Sub b c):Sub a c:=fun x o hx=>k x o (h x o hx)
structure adk(fr B:Cells)(ro:Nat→Option Obj)(s1 s:St):Prop where
 rw:s.rw.Perm (s1.rw++fr)
 aH:∀b o,s1.ro b=some o→s.ro b=some o∨(b,o)∈B
 keep:Sub ro s.ro
theorem yc(hT:Closed P main T){s:St}(hg:g.status= .running)(h:(∃w,aS s w)→T g s):T g s:=by
 by_cases hw:∃w,aS s w
 ·exact h hw
 exact hT.step g s hg fun w p6=>absurd ⟨w,p6⟩ hw
theorem BQ(hT:Closed P main T){fr:Cells}(hB:∀x∈B,x∈fr)(ro:Nat→Option Obj):
 Closed P main (fun g s1=>g.status= .running→∀s,adk fr B ro s1 s→T g s) where
 step:=fun g s1 hg h _ s hc=>by
  refine hT.step g s hg fun w hw=>?_
  have Qa:∀x,x∈s.rw↔x∈s1.rw∨x∈fr:=fun x=>by rw[hc.rw.mem_iff,List.mem_append]
  have mo:=(hc.rw.map (·.1)).nodup_iff.1 hw.nodup
  rw[List.map_append,List.nodup_append] at mo
  obtain⟨hn1,hn2,hn3⟩:=mo
  have aGY:∀b o o',(b,o)∈s1.rw→(b,o')∈fr→False:=fun b o o' h1 h2=>hn3 b (List.mem_map.2 ⟨_,h1,rfl⟩) b (List.mem_map.2 ⟨_,h2,rfl⟩) rfl
  have aR5:aS s1 w:=by
   refine⟨fun b o hb=>?_,fun b o hb=>hw.rw b o ((Qa _).2 (.inl hb)),hn1,fun b o hb=>?_⟩
   ·rcases hc.aH b o hb with h1|h1
    ·exact hw.ro b o h1
    exact hw.rw b o ((Qa _).2 (.inr (hB _ h1)))
   cases hr:s1.ro b with
   |none=>rfl
   |some o'=>
    rcases hc.aH b o' hr with h1|h1
    ·rw[hw.apart b o ((Qa _).2 (.inl hb))] at h1;cases h1
    exact(aGY b o o' hb (hB _ h1)).elim
  obtain⟨g',w',es,zl,bW,bX,ht,hT'⟩:=h w aR5
  have aip:∀b o,(b,o)∈fr→b <w.heap.size:=fun b o hb=>hw.lt (.inr ((Qa _).2 (.inr hb)))
  have axu:∀b o,(b,o)∈fr→¬s1.jh b:=fun b o hb ⟨o',FV⟩=>aGY b o' o FV hb
  have aww:∀b,s.ro b≠none→¬s1.jh b:=fun b hb ⟨o',FV⟩=>hb (hw.apart b o' ((Qa _).2 (.inl FV)))
  have ahG:∀b,s.ro b≠none→b <w.heap.size:=fun b hb=>by
   cases hr:s.ro b with
   |none=>exact absurd hr hb
   |some o=>exact hw.lt (.inl hr)
  have aGN:∀b o,(b,o)∈fr→w'.heap[b]?=some o:=fun b o hb=>by
   rw[ht.frame b (aip b o hb) (axu b o hb)]
   exact hw.rw b o ((Qa _).2 (.inr hb))
  classical
  let aJ:Nat→Option Obj:=fun b=>if ∃o,(b,o)∈fr then none else match zl.ro b with
   |some o=>some o
   |none=>s.ro b
  have awx:∀b o,aJ b=some o→¬(∃o,(b,o)∈fr)∧(zl.ro b=some o∨(zl.ro b=none∧s.ro b=some o)):=fun b o hb=>by
   simp only[aJ] at hb
   split at hb
   ·cases hb
   rename_i hn
   refine⟨hn,?_⟩
   cases h1:zl.ro b with
   |none=>rw[h1] at hb;exact .inr ⟨rfl,hb⟩
   |some o2=>rw[h1] at hb;exact .inl hb
  have aR4:aS ⟨aJ,zl.rw++fr⟩ w':=by
   refine⟨fun b o hb=>?_,fun b o hb=>?_,?_,fun b o hb=>?_⟩
   ·obtain⟨_,h1| ⟨_,h2⟩⟩:=awx b o hb
    ·exact ht.jP.ro b o h1
    have dR:s.ro b≠none:=by rw[h2];simp
    rw[ht.frame b (ahG b dR) (aww b dR)]
    exact hw.ro b o h2
   ·rcases List.mem_append.1 hb with hb|hb
    ·exact ht.jP.rw b o hb
    exact aGN b o hb
   ·show ((zl.rw++fr).map (·.1)).Nodup
    rw[List.map_append,List.nodup_append]
    refine⟨ht.jP.nodup,hn2,fun x hx y hy e=>?_⟩
    obtain⟨⟨b,o⟩,h1,rfl⟩:=List.mem_map.1 hx
    obtain⟨⟨b2,o2⟩,h2,rfl⟩:=List.mem_map.1 hy
    dsimp only at e;subst e
    rcases ht.own b ⟨o,h1⟩ with h3|h3
    ·exact absurd (aip b o2 h2) (by omega)
    exact axu b o2 h2 h3
   show aJ b=none
   rcases List.mem_append.1 hb with hb|hb
   ·cases hr:aJ b with
    |none=>rfl
    |some o'=>
     obtain⟨hn,h1| ⟨_,h2⟩⟩:=awx b o' hr
     ·rw[ht.jP.apart b o hb] at h1;cases h1
     have dR:s.ro b≠none:=by rw[h2];simp
     rcases ht.own b ⟨o,hb⟩ with h3|h3
     ·exact absurd (ahG b dR) (by omega)
     exact(aww b dR h3).elim
   simp only[aJ]
   rw[if_pos ⟨o,hb⟩]
  have aG3:adk fr B ro zl ⟨aJ,zl.rw++fr⟩:=by
   refine⟨.refl _,fun b o hb=>?_,fun b o hb=>?_⟩
   ·by_cases hf:∃o,(b,o)∈fr
    ·obtain⟨o2,JI⟩:=hf
     have e1:=ht.jP.ro b o hb
     rw[aGN b o2 JI] at e1
     cases e1
     rcases ht.NI b (by rw[hb];simp) with h1|h1|h1
     ·exact absurd (aip b _ JI) (by omega)
     ·cases hr:s1.ro b with
      |none=>exact absurd hr h1
      |some o3=>
       rcases hc.aH b o3 hr with h3|h3
       ·rw[hw.apart b _ ((Qa _).2 (.inr JI))] at h3;cases h3
       have e3:=hw.rw b o3 ((Qa _).2 (.inr (hB _ h3)))
       rw[hw.rw b _ ((Qa _).2 (.inr JI))] at e3
       cases e3
       exact .inr h3
     exact(axu b _ JI h1).elim
    left
    show aJ b=some o
    simp only[aJ]
    rw[if_neg hf,hb]
   have h1:=hc.keep b o hb
   have dR:s.ro b≠none:=by rw[h1];simp
   have hf:¬ ∃o,(b,o)∈fr:=fun⟨o2,JI⟩=>dR (hw.apart b o2 ((Qa _).2 (.inr JI)))
   show aJ b=some o
   simp only[aJ]
   rw[if_neg hf]
   cases h2:zl.ro b with
   |none=>exact h1
   |some o2=>
    have e1:=ht.jP.ro b o2 h2
    rw[ht.frame b (ahG b dR) (aww b dR),hw.ro b o h1] at e1
    exact e1.symm
  refine⟨g',w',es,⟨aJ,zl.rw++fr⟩,bW,bX,⟨aR4,ht.size,fun b hb hn=>?_,fun b hb=>?_,fun b hb=>?_,ht.os,ht.output,ht.tape,fun e he=>?_,ht.low⟩,hT' bX _ aG3⟩
  ·exact ht.frame b hb fun⟨o,ho⟩=>hn ⟨o,(Qa _).2 (.inl ho)⟩
  ·obtain⟨o,ho⟩:=hb
   rcases List.mem_append.1 ho with ho|ho
   ·rcases ht.own b ⟨o,ho⟩ with h3| ⟨o3,h3⟩
    ·exact .inl h3
    exact .inr ⟨o3,(Qa _).2 (.inl h3)⟩
   exact .inr ⟨o,(Qa _).2 (.inr ho)⟩
  ·have hb:aJ b≠none:=hb
   cases hr:aJ b with
   |none=>exact absurd hr hb
   |some o=>
    obtain⟨hn,h1| ⟨_,h2⟩⟩:=awx b o hr
    ·rcases ht.NI b (by rw[h1];simp) with h3|h3| ⟨o3,h3⟩
     ·exact .inl h3
     ·cases h4:s1.ro b with
      |none=>exact absurd h4 h3
      |some o4=>
       rcases hc.aH b o4 h4 with h5|h5
       ·exact .inr (.inl (by rw[h5];simp))
       exact absurd ⟨_,hB _ h5⟩ hn
     exact .inr (.inr ⟨o3,(Qa _).2 (.inl h3)⟩)
    exact .inr (.inl (by rw[h2];simp))
  have Uc:=ht.vX e he
  have arW:∀b,(∃o,(b,o)∈s1.rw)→s.jh b:=fun b ⟨o,ho⟩=>⟨o,(Qa _).2 (.inl ho)⟩
  have aFG:∀b,s1.ro b≠none→s.ro b≠none∨s.jh b:=fun b hb=>by
   cases h4:s1.ro b with
   |none=>exact absurd h4 hb
   |some o4=>
    rcases hc.aH b o4 h4 with h5|h5
    ·exact .inl (by rw[h5];simp)
    exact .inr ⟨o4,(Qa _).2 (.inr (hB _ h5))⟩
  unfold Jz at*
  split at Uc
  ·refine⟨Uc.1,?_⟩
   rcases Uc.2 with h1|h1| ⟨h1,h2⟩
   ·exact .inl h1
   ·exact .inr (.inl (arW _ h1))
   rcases aFG _ h2 with h3|h3
   ·exact .inr (.inr ⟨h1,h3⟩)
   exact .inr (.inl h3)
  ·refine⟨Uc.1,?_⟩
   rcases Uc.2 with h1|h1| ⟨h1,h2⟩
   ·exact .inl h1
   ·exact .inr (.inl (arW _ h1))
   rcases aFG _ h2 with h3|h3
   ·exact .inr (.inr ⟨h1,h3⟩)
   exact .inr (.inl h3)
  ·exact Uc
  exact Uc
 mono:=fun g s1 zl hl h bX s hc=>by
  refine yc hT bX fun⟨w,hw⟩=>?_
  obtain⟨R,hR,BA⟩:=hl
  have Qa:∀x,x∈s.rw↔x∈zl.rw∨x∈fr:=fun x=>by rw[hc.rw.mem_iff,List.mem_append]
  have ayl:∀x,x∈R→x∈s.rw:=fun x hx=>(Qa x).2 (.inl (hR.mem_iff.2 (List.mem_append_right _ hx)))
  classical
  let pW:Nat→Option Obj:=fun b=>if hx:∃o,(b,o)∈R then some (Classical.choose hx) else s.ro b
  have HT:∀b o,(b,o)∈R→pW b=some o:=fun b o hb=>by
   have hx:∃o,(b,o)∈R:=⟨o,hb⟩
   simp only[pW]
   rw[dif_pos hx]
   have h1:=hw.rw b _ (ayl _ (Classical.choose_spec hx))
   rw[hw.rw b o (ayl _ hb)] at h1
   cases h1;rfl
  have ib:∀b o,s.ro b=some o→pW b=some o:=fun b o hb=>by
   simp only[pW]
   rw[dif_neg]
   ·exact hb
   rintro⟨o2,JI⟩
   rw[hw.apart b o2 (ayl _ JI)] at hb;cases hb
  refine hT.mono g ⟨pW,s1.rw++fr⟩ s ⟨R,?_,fun b o hb=>?_⟩ (h bX _ ⟨.refl _,fun b o hb=>?_,fun b o hb=>ib b o (hc.keep b o hb)⟩)
  ·refine hc.rw.trans ((List.Perm.append_right fr hR).trans ?_)
   rw[List.append_assoc,List.append_assoc]
   exact List.Perm.append_left _ List.perm_append_comm
  ·simp only[pW] at hb
   split at hb
   ·rename_i hx
    simp only[Option.some.injEq] at hb
    exact .inr (hb▸Classical.choose_spec hx)
   exact .inl hb
  rcases BA b o hb with h1|h1
  ·exact(hc.aH b o h1).imp (ib b o) id
  exact .inl (HT b o h1)
theorem Fn.frame{f:FuncId}{s1 s:St}{R:Ending→St→Prop}{fr:Cells}(hf:Fn (CP P) P f args s1 R)(hB:∀x∈B,x∈fr)(hc:adk fr B ro s1 s):
 Fn (CP P) P f args s (fun en s'=>∃zl,R en zl∧adk fr B ro zl s'):=
 fun main T hT c cs k1 k2=>hf main _ (BQ hT hB ro) c cs (fun v zl hv _ s' tI=>k1 v s' ⟨zl,hv,tI⟩) (fun ch zl hv _ s' tI=>k2 ch s' ⟨zl,hv,tI⟩) rfl s hc
def eg(P:Program)(f:FuncId)(args:List Value)(ro:Nat→Option Obj)(own:Cells)(Φ:Value→Cells→Prop):Prop:=
 Fn (CP P) P f ⟨args⟩ ⟨ro,own⟩ (fun en s'=>∃v X,en= .returned v∧s'=⟨ro,X⟩∧Φ v X)
abbrev dK(P:Program)(f:FuncId)(args:List Value)(ro:Nat→Option Obj)(V:Value):Prop:=eg P f args ro [] (fun v X=>v=V∧X=[])
theorem eg.mono{f:FuncId}{args:List Value}{own:Cells}{Φ':Value→Cells→Prop}(h:eg P f args ro own Φ)(hk:∀v X,Φ v X→Φ' v X):eg P f args ro own Φ':=
 Fn.mono h fun _ _ ⟨v,X,h1,h2,h3⟩=>⟨v,X,h1,h2,hk v X h3⟩
theorem Pf:Ext ⟨ro,[]⟩ ⟨ro,rw⟩:=fun _ _ h=>h.elim .inl (fun h=>by cases h)
theorem oD{aJ:Nat→Option Obj}(h:Sub ro aJ):Ext ⟨ro,[]⟩ ⟨aJ,[]⟩:=fun b o hb=>hb.elim (fun hb=> .inl (h b o hb)) (fun hb=>by cases hb)
def bD(ro:Nat→Option Obj)(v:Value)(sz:Nat)(enc:α→List Value)(ps:List α):Prop:=
 ∃a b o cap,v= .slice a ps.length cap∧ps.length≤cap∧(∀k,k <ps.length→a=some ⟨b,o,none⟩)∧∀i p,ps[i]?=some p→cE ⟨ro,[]⟩ b (o+i*sz) sz (enc p)
theorem bD.nil(ro:Nat→Option Obj)(sz:Nat)(enc:α→List Value)(a:Option Addr)(cap:Nat):bD ro (.slice a 0 cap) sz enc []:=⟨a,0,0,cap,rfl,Nat.zero_le _,fun k h=>absurd h (Nat.not_lt_zero k),fun i p hp=>by simp at hp⟩
theorem bD.up{aJ:Nat→Option Obj}{v:Value}{enc:α→List Value}{ps:List α}(h:bD ro v sz enc ps)(hs:Sub ro aJ):bD aJ v sz enc ps:=by
 obtain⟨a,b,o,cap,h1,h4,h2,h3⟩:=h
 exact⟨a,b,o,cap,h1,h4,h2,fun i p hp=>(h3 i p hp).ext (oD hs)⟩
section rules
variable {P:Program} {C:Class} {fn:FuncId} {aA:Option Nat} {Q:Post} {s:St} {n:Nat} {env:Env} {D:List Deferred}
variable {ops:Array Oper} {i:Nat} {rest:List Nat} {dst:Option Tmp} {ty:TypeId} {pos:String} {dg:Array Edge} {g:Option (Nat×Bool)}
variable {T:TypeId} {d:TypeDesc} {sz bE:Nat} {z:List Value} {ag:Bool} {ro:Nat→Option Obj} {rw:Cells}
theorem ab.more{a:Act}(hC:∀main T,C main T→Closed P main T)(hl:s.le s')(h:ab C fn aA ops todo Q a s):ab C fn aA ops todo Q a s':=
 fun main T hT b k cs h1 h2 h3 h4=>(hC _ _ hT).mono _ _ _ hl (h main T hT b k cs h1 h2 h3 h4)
theorem anB{a:Act}(hC:∀main T,C main T→Closed P main T)(h:(∃w,aS s w)→ab C fn aA ops todo Q a s):ab C fn aA ops todo Q a s:=
 fun main T hT b k cs h1 h2 h3 h4=>yc (hC _ _ hT) rfl fun hw=>h hw main T hT b k cs h1 h2 h3 h4
theorem as2{a:Act}{c:Code}(hC:∀main T,C main T→Closed P main T)(h:(∃w,aS s w)→Wp C fn aA c Q a s):Wp C fn aA c Q a s:=
 fun main T hT b k cs h1 h2 h3 h4=>yc (hC _ _ hT) rfl fun hw=>h hw main T hT b k cs h1 h2 h3 h4
theorem ajZ{f:FuncId}{R:Ending→St→Prop}(hC:∀main T,C main T→Closed P main T)(h:(∃w,aS s w)→Fn C P f args s R):Fn C P f args s R:=
 fun main T hT c cs h1 h2=>yc (hC _ _ hT) rfl fun hw=>h hw main T hT c cs h1 h2
theorem Z6(hp:rw.Perm (X++s.rw))(hw:∃w,aS ⟨s.ro,rw⟩ w):∃aJ,Sub s.ro aJ∧(∀x∈X,aJ x.1=some x.2)∧(⟨aJ,s.rw⟩:St).le ⟨s.ro,rw⟩:=by
 classical
 obtain⟨w,hw⟩:=hw
 have AT:∀x,x∈X→x∈rw:=fun x hx=>hp.mem_iff.2 (List.mem_append_left _ hx)
 refine⟨fun b=>if hx:∃o,(b,o)∈X then some (Classical.choose hx) else s.ro b,fun b o hb=>?_,fun x hx=>?_,X,hp.trans List.perm_append_comm,fun b o hb=>?_⟩
 ·simp only
  rw[dif_neg]
  ·exact hb
  rintro⟨o2,JI⟩
  have:=hw.apart b o2 (AT _ JI)
  rw[show s.ro b=none from this] at hb;cases hb
 ·obtain⟨b,o⟩:=x
  have lU:∃o,(b,o)∈X:=⟨o,hx⟩
  simp only
  rw[dif_pos lU]
  have h1:=hw.rw b _ (AT _ (Classical.choose_spec lU))
  rw[hw.rw b o (AT _ hx)] at h1
  cases h1;rfl
 simp only at hb
 split at hb
 ·rename_i hx
  simp only[Option.some.injEq] at hb
  exact .inr (hb▸Classical.choose_spec hx)
 exact .inl hb
theorem aaQ{a:Act}{c:Code}(hC:∀main T,C main T→Closed P main T)(hp:rw'.Perm (X++rw))(h:∀aJ,Sub ro aJ→(∀x∈X,aJ x.1=some x.2)→Wp C fn aA c Q a ⟨aJ,rw⟩):Wp C fn aA c Q a ⟨ro,rw'⟩:=
 as2 hC fun hw=>by
  obtain⟨aJ,h1,h2,h3⟩:=Z6 (s:=⟨ro,rw⟩) hp hw
  exact(h aJ h1 h2).more hC h3
theorem Vf{a:Act}(hC:∀main T,C main T→Closed P main T)(hp:rw'.Perm (X++rw))(h:∀aJ,Sub ro aJ→(∀x∈X,aJ x.1=some x.2)→ab C fn aA ops todo Q a ⟨aJ,rw⟩):ab C fn aA ops todo Q a ⟨ro,rw'⟩:=
 anB hC fun hw=>by
  obtain⟨aJ,h1,h2,h3⟩:=Z6 (s:=⟨ro,rw⟩) hp hw
  exact(h aJ h1 h2).more hC h3
theorem eg.use{f:FuncId}{own fr:Cells}(hp:s.rw.Perm (own++fr))(hB:∀x∈B,x∈fr)(hf:∀aH,Sub s.ro aH→(∀x∈B,aH x.1=some x.2)→eg P f vs aH own Φ):
 Fn (CP P) P f ⟨vs⟩ s (fun en s'=>∃v X,en= .returned v∧Φ v X∧(⟨s.ro,X++fr⟩:St).le s'):=by
 refine ajZ eP fun⟨w,hw⟩=>?_
 classical
 have AT:∀x,x∈B→x∈s.rw:=fun x hx=>hp.mem_iff.2 (List.mem_append_right _ (hB x hx))
 let aH:Nat→Option Obj:=fun b=>if hx:∃o,(b,o)∈B then some (Classical.choose hx) else s.ro b
 have h1:Sub s.ro aH:=fun b o hb=>by
  simp only[aH]
  rw[dif_neg]
  ·exact hb
  rintro⟨o2,JI⟩
  rw[hw.apart b o2 (AT _ JI)] at hb;cases hb
 have h2:∀x∈B,aH x.1=some x.2:=fun⟨b,o⟩ hx=>by
  have lU:∃o,(b,o)∈B:=⟨o,hx⟩
  simp only[aH]
  rw[dif_pos lU]
  have h3:=hw.rw b _ (AT _ (Classical.choose_spec lU))
  rw[hw.rw b o (AT _ hx)] at h3
  cases h3;rfl
 refine Fn.mono (Fn.frame (fr:=fr) (B:=B) (ro:=s.ro) (s:=s) (hf aH h1 h2) hB ⟨hp,fun b o hb=>?_,Sub.refl _⟩) fun en s' EB=>?_
 ·simp only[aH] at hb
  split at hb
  ·rename_i hx
   simp only[Option.some.injEq] at hb
   exact .inr (hb▸Classical.choose_spec hx)
  exact .inl hb
 obtain⟨zl,⟨v,X,rfl,rfl,qH⟩,hc⟩:=EB
 exact⟨v,X,rfl,qH,[],by simpa using hc.rw,fun b o hb=> .inl (hc.keep b o hb)⟩
theorem af6(hC:∀main T,C main T→Closed P main T){f:FuncId}{own fr:Cells}(ho:ops[i]?=some ⟨dst,.call ⟨.value x,xs,at_⟩,ty,pos,dg,g⟩) (hw:ax ops n env g=true)
 (hv:bu n env x=some (.func (.func f) fi ca)) (ff:FF P f) (hx:vX n env xs=some vs) (sM:fi++⟨vs⟩++ca=⟨ws⟩) (hp:s.rw.Perm (own++fr)) (hB:∀x∈B,x∈fr) (hf:∀aH,Sub s.ro aH→(∀x∈B,aH x.1=some x.2)→eg P f ws aH own Φ)
 (h:∀v X,Φ v X→ab C fn aA ops rest Q (A n (upd dst v env) D) ⟨s.ro,X++fr⟩):ab C fn aA ops (i::rest) Q (A n env D) s:=
 uA hC ho hw hv ff hx sM ((eg.use hp hB hf).weaken hC) (fun v' s' hr=>by obtain⟨v,X,e,h1,h2⟩:=hr;cases e;exact(h _ X h1).more hC h2) (fun ch s' hr=>by obtain⟨_,_,e,_⟩:=hr;cases e) (fun s' hr=>by obtain⟨_,_,e,_⟩:=hr;cases e)
theorem dK.use{f:FuncId}{V:Value}{sz:St}(hez:Ext s sz)(hf:∀aH,(∀b o,s.has b o→aH b=some o)→dK P f vs aH V):Fn (CP P) P f ⟨vs⟩ sz (fun e s'=>e= .returned V∧sz.le s'):=by
 refine ajZ eP fun⟨w,hw⟩=>?_
 refine Fn.mono (eg.use (s:=sz) (own:=[]) (fr:=sz.rw) (B:=sz.rw) (.refl _) (fun _ h=>h) (fun aH h1 h2=>hf aH fun b o hb=>?_)) fun en s' EB=>?_
 ·rcases hez b o hb with h3|h3
  ·exact h1 b o h3
  exact h2 _ h3
 obtain⟨v,X,e,⟨h1,h2⟩,h3⟩:=EB
 subst h1 h2
 exact⟨e,h3⟩
theorem RF(hC:∀main T,C main T→Closed P main T){f:FuncId}{V:Value}{s0:St}(ho:ops[i]?=some ⟨dst,.call ⟨.value x,xs,at_⟩,ty,pos,dg,g⟩) (hw:ax ops n env g=true)
 (hv:bu n env x=some (.func (.func f) fi ca)) (ff:FF P f) (hx:vX n env xs=some vs) (sM:fi++⟨vs⟩++ca=⟨ws⟩) (hez:Ext s0 s) (hf:∀aH,(∀b o,s0.has b o→aH b=some o)→dK P f ws aH V) (h:ab C fn aA ops rest Q (A n (upd dst V env) D) s):ab C fn aA ops (i::rest) Q (A n env D) s:=
 uA hC ho hw hv ff hx sM ((dK.use hez hf).weaken hC) (fun v' s' hr=>by obtain⟨e,h1⟩:=hr;cases e;exact h.more hC h1) (fun ch s' hr=>by cases hr.1) (fun s' hr=>by cases hr.1)
theorem GG{aH:Nat→Option Obj}(h:∀b o,(⟨ro,rw⟩:St).has b o→aH b=some o):Sub ro aH:=fun b o hb=>h b o (.inl hb)
theorem ay.jL{v:Value}{T:TypeId}{enc:α→List Value}{ps:List α}{L:Cells}{aH:Nat→Option Obj}(h:ay v sz T enc ps L)(hL:∀x∈L,aH x.1=some x.2):bD aH v sz enc ps:=by
 obtain⟨a,b,o,cap,h1,h2,h3⟩:=h.sl (s:=⟨aH,[]⟩) fun x hx=> .inl (hL x hx)
 refine⟨a,b,o,cap,h1,?_,h2,h3⟩
 rcases h with ⟨_,g2,_⟩| ⟨b',l,aTx,g1,_,_,g4,_⟩
 ·subst g2;exact Nat.zero_le _
 rw[g1] at h1;cases h1;exact g4
end rules
section rules
variable {P:Program} {C:Class} {fn:FuncId} {aA:Option Nat} {Q:Post} {s:St} {n:Nat} {env:Env} {D:List Deferred}
variable {ops:Array Oper} {i:Nat} {rest:List Nat} {dst:Option Tmp} {ty:TypeId} {pos:String} {dg:Array Edge} {g:Option (Nat×Bool)}
variable {T:TypeId} {d:TypeDesc} {sz bE:Nat} {z:List Value} {ag:Bool}
theorem Vi(hC:∀main T,C main T→Closed P main T)(ho:ops[i]?=some ⟨dst,.range T x,ty,pos,dg,g⟩) (hw:ax ops n env g=true) (tf:TF P T .string sz bE z ag) (hx:bu n env x=some (.string b))
 (h:∀r,¬s.knows r→ab C fn aA ops rest Q (A n (upd dst (.pointer (some ⟨r,0,none⟩)) env) D) ⟨s.ro,(r,.stringIter b 0)::s.rw⟩):ab C fn aA ops (i::rest) Q (A n env D) s:=by
 refine bV hC ho hw (by simp) ?_
 simp only[execOp,Instr.range,aa,ba tf,aG hx,ae,oK]
 intro r hr
 have:=h r hr
 rw[←aZ] at this
 exact this
theorem abF(hC:∀main T,C main T→Closed P main T){r:Nat}{L R:Cells}(ho:ops[i]?=some ⟨dst,.next x true,ty,pos,dg,g⟩) (hw:ax ops n env g=true) (hx:bu n env x=some (.pointer (some ⟨r,0,none⟩))) (hs:s.rw=L++(r,.stringIter b p)::R) (hp:p <b.size)
 (h:ab C fn aA ops rest Q (A n (upd dst (.tuple ⟨[.bool true,.int .i64 p,.int .i32 (Utf8.decode b p).1]⟩) env) D) ⟨s.ro,L++(r,.stringIter b (p+(Utf8.decode b p).2))::R⟩):ab C fn aA ops (i::rest) Q (A n env D) s:=by
 refine bV hC ho hw (by simp) ?_
 simp only[execOp,Instr.next,aa,aG hx]
 refine cJ (o:= .stringIter b p) (.inr (by rw[hs];simp)) rfl rfl ?_
 simp only[aa,hp,if_true]
 refine eB (o:= .stringIter b (p+(Utf8.decode b p).2)) rfl hs rfl ?_
 rw[←aZ] at h
 exact h
theorem abG(hC:∀main T,C main T→Closed P main T){r:Nat}{L R:Cells}(ho:ops[i]?=some ⟨dst,.next x true,ty,pos,dg,g⟩) (hw:ax ops n env g=true) (hx:bu n env x=some (.pointer (some ⟨r,0,none⟩))) (hs:s.rw=L++(r,.stringIter b p)::R) (hp:¬p <b.size)
 (h:ab C fn aA ops rest Q (A n (upd dst (.tuple ⟨[.bool false]⟩) env) D) s):ab C fn aA ops (i::rest) Q (A n env D) s:=by
 refine bV hC ho hw (by simp) ?_
 simp only[execOp,Instr.next,aa,aG hx]
 refine cJ (o:= .stringIter b p) (.inr (by rw[hs];simp)) rfl rfl ?_
 simp only[aa,hp,if_false]
 rw[←aZ] at h
 exact h
end rules
end Go.L
