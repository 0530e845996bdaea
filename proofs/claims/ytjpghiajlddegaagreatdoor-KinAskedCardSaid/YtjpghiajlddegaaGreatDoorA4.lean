/- Part 4 of the proof: a program logic, contracts, a theorem on goroutines. -/
import Derived.Test.YtjpghiajlddegaaGreatDoorA3
import Derived.Conc.Holds
set_option maxRecDepth 100000
set_option linter.all false
namespace Go.L
open Go Go.Conc
open Go.ConcR (KK wgBlock WgAt stA smA rd wr)
variable {Q:Machine→Outcome→World→Trace→Prop} {I:(Nat→St)→World→Trace→Prop} {st sm:Int} {n mx b j n':Nat} {g:Goroutine} {s s':St}
section
variable {ι:Type} {E:dS ι} {L:Nat→Option Obj} {K:Nat→St} {gs:Array Goroutine} {w w':World} {t u:Trace} {D:List (ar ι)} {pend d0:Nat} {cl:yX} {main:Goroutine} {sl:Option (Nat×Nat)}
 {i:Nat} {g g':Goroutine} {es:Array Event}
theorem lQ(K:Nat→St)(i:Nat):fL K i (K i)=K:=by
 funext j
 by_cases e:j=i
 ·subst e;rw[aF]
 ·rw[aH _ _ e]
theorem Md.aoU{a c:Nat}{cl cl':yX}(h:Md mx n a b c (cl.map (·.2.1)) st sm)(hw:yN cl cl'):Md mx n a b c (cl'.map (·.2.1)) st sm:=by
 cases hw with
 |same=>exact h
 |up ic=>
  simp only[Option.map_some] at h ⊢
  cases h with
  |reg _ h2=>exact .reg trivial h2
  |l4 _=>exact .l4 trivial
  |l3 _=>exact .l3 trivial
  |l2 _=>exact .l2 trivial
  |sema _ h2=>exact absurd rfl h2
  |over h1=>exact h1.elim
theorem Inv.qh(h:Inv E L K gs w t D pend cl main d0){r r':ar ι}(hi:D[i]?=some r) (hw:w'.heap[E.Wg]?=w.heap[E.Wg]?) (h1:r'.cnt=r.cnt) (h4:r'.c4=r.c4) (h3:r'.c3=r.c3) (h2:r'.c2=r.c2):
 ∀cl',yN cl cl'→∃st sm,WgAt E.ty E.Wg w' st sm∧Md E.max (fx ar.cnt (D.set i r')+pend) (fx ar.c4 (D.set i r')) (fx ar.c3 (D.set i r')) (fx ar.c2 (D.set i r')) (cl'.map (·.2.1)) st sm:=by
 intro cl' Dl
 obtain⟨st,sm,ha,hm⟩:=h.sy.cells
 have e1:=jB ar.cnt (y:=r') hi
 have e4:=jB ar.c4 (y:=r') hi
 have e3:=jB ar.c3 (y:=r') hi
 have e2:=jB ar.c2 (y:=r') hi
 rw[show fx ar.cnt (D.set i r')=fx ar.cnt D by omega,show fx ar.c4 (D.set i r')=fx ar.c4 D by omega,show fx ar.c3 (D.set i r')=fx ar.c3 D by omega,show fx ar.c2 (D.set i r')=fx ar.c2 D by omega]
 exact⟨st,sm,by unfold WgAt;rw[hw];exact ha,hm.aoU Dl⟩
theorem eH.quiet(h:eH t j)(hu:∀op∈u,op.act.touch?=none):eH (t++u) j:=by
 intro p hp hc
 obtain⟨op,ho,hg⟩:=Option.map_eq_some_iff.1 hp
 rcases getElem?_append_cases ho with ⟨cK,_⟩| ⟨_,hm⟩
 ·obtain⟨q,h1,h2⟩:=h p (by rw[←g?_old (u:=u) cK];exact hp) ((counts_old cK).1 hc)
  have hq:q <t.size:=by
   obtain⟨o,ho,_⟩:=Option.map_eq_some_iff.1 h1
   exact lt_size_of_getElem? ho
  exact⟨q,by rw[g?_old hq];exact h1,hb_app u h2⟩
 ·obtain⟨x,hx,_⟩:=hc
  obtain⟨o',D9,lH⟩:=touch_of hx
  rw[ho] at D9;cases D9
  rw[hu op hm] at lH;cases lH
theorem Si{e:Event}(h:Event.mute e=true):(MemAct.ofEvent e).touch?=none:=by
 obtain⟨loc,wr,sy⟩:=e
 cases loc with
 |mark m=>cases m<;>first|rfl| (simp[Event.mute] at h)
 |_=>simp[Event.mute] at h
theorem Inv.leave(h:Inv E L K gs w t D pend cl main d0)(hm:gF E main){q d:Nat}{cur:Bool}(hi:D[i]?=some (.leave q d cur)) (hg:gs[i+1]?=some g) (hs:g.status= .running):
 qn E L K D pend cl main d0 (crowd gs w sl) sl t (i+1):=by
 obtain⟨fp,dg,fg⟩:=h.base.ok i _ hi
 obtain rfl:fp=g:=by rw[hg] at dg;exact(Option.some.inj dg).symm
 obtain⟨hK,hq,hd,hc,hk⟩:=fg
 cases q with
 |zero=>have:=hq.1;rw[hs] at this;cases this
 |succ q=>
  rcases hq with ⟨h1,_⟩| ⟨_,g',es,QN,bS,Hu⟩
  ·rw[hs] at h1;cases h1
  ·have hu:=Ja (i:=i+1) (fn:=fp.frame.fn) (pos:=fp.frame.place) QN
   have hrb:∀p,ConcN.RelBy (stA E.Wg) t (i+1) p→ConcN.RelBy (stA E.Wg) (t++MemOp.ofEvents (i+1) fp.frame.fn fp.frame.place es) (i+1) p:=fun p hp=>
    ConcN.RelBy.appOwn hp _ _ _ fun j e he=> .inl (Si (QN e (Array.mem_of_getElem? he)))
   refine h.go hm (r':= .leave q (deafBehind d es) cur) (s':=K (i+1)) (w':=w) hi (by simp) (by simp) hg (bS w) ⟨rfl,rfl⟩ (h.sy.kW _) (h.sy.kC _) rfl ?_ ?_ (fun op aB x hx=>by rw[hu op aB] at hx;cases hx) (fun op aB a=>OM QN a op aB)
    (fun e=>e) (fun e=>e) (fun _ e=>e) (fun _ p hp=>hrb p hp) (Nat.le_refl _) rfl (D5 (Nat.lt_succ_self q)) fun cl' hw _=>h.qh (r':= .leave q (deafBehind d es) cur) hi rfl rfl rfl rfl rfl cl' hw
   ·rw[lQ]
    exact h.base.fit.quiet E.Wg h.sy.kW h.sy.lW (Nat.le_refl _) (fun _ _ _=>rfl) hu
   ·refine⟨hK,Hu,?_,fun e=>let ⟨r,hr⟩:=hc e;⟨r,hrb r hr⟩,fun e=>(hk e).quiet hu⟩
    rw[Deaf_own,hd]
theorem Sy.zo(h:Sy E L K gs w t D pend cl)(ht:Trans (K j) w s' w' es)(fn:FuncId)(pos:String):
 ¬s'.knows E.Wg∧¬s'.knows E.Ch∧w'.heap[E.Wg]?=w.heap[E.Wg]?∧w'.heap[E.Ch]?=w.heap[E.Ch]?∧
 (∀op∈MemOp.ofEvents j fn pos es,∀x,op.act.touch?=some x→¬E.At x)∧(∀op∈MemOp.ofEvents j fn pos es,∀a,op.act≠ .mark (.release a)):=by
 obtain⟨st,sm,ha,_⟩:=h.cells
 obtain⟨sn,rc,tm,hc⟩:=h.chan
 have hW:E.Wg <w.heap.size:=lt_size ha
 have hC:E.Ch <w.heap.size:=lt_size hc
 have kn:∀b,b <w.heap.size→¬(K j).knows b→¬s'.knows b:=fun b hb hk jD=>by
  rcases jD with h'|h'
  ·rcases ht.Kh b h' with h1|h1|h1
   ·omega
   ·exact hk (.inl h1)
   ·exact hk (.inr h1)
  ·rcases ht.own b h' with h1|h1
   ·omega
   ·exact hk (.inr h1)
 refine⟨kn _ hW (h.kW j),kn _ hC (h.kC j),ht.frame _ hW fun ho=>h.kW j (.inr ho),ht.frame _ hC fun ho=>h.kC j (.inr ho),fun op aB x hx hb=>?_,fun op aB a e=>?_⟩
 ·obtain⟨_,b,mo,uj,_⟩:=(Ck ht.uM aB).2 x hx
  rcases hb with hb|hb
  ·obtain rfl:b=E.Wg:=by rw[hb] at mo;exact(Option.some.inj mo).symm
   rcases uj with h1|h1|h1
   ·omega
   ·exact h.kW j (.inr h1)
   ·exact h.kW j (.inl h1.2)
  ·obtain rfl:b=E.Ch:=by rw[hb] at mo;exact(Option.some.inj mo).symm
   rcases uj with h1|h1|h1
   ·omega
   ·exact h.kC j (.inr h1)
   ·exact h.kC j (.inl h1.2)
 ·rw[ofEvents_eq] at aB
  obtain⟨e',he,rfl⟩:=Array.mem_map.1 aB
  have hl:=Go.ConcR.loc_of_ofEvent e
  have:=ht.uM e' he
  unfold Hn at this
  rw[hl] at this
  simp[Bs] at this
theorem xA:∀(es:List Event) (d:Nat),(∀e∈es,Hn s n e)→es.foldl (fun d e=>match e.loc with| .mark .disable=>d+1| .mark .enable=>d-1|_=>d) d=d
 | [],_,_=>rfl
 |e::es,d,h=>by
  have he:=h e (by simp)
  have:(match e.loc with| .mark .disable=>d+1| .mark .enable=>d-1|_=>d)=d:=by
   unfold Hn at he
   split<;>simp_all[Bs]
  rw[List.foldl_cons,this]
  exact xA es d fun x hx=>h x (by simp[hx])
theorem Trans.deaf(ht:Trans s w s' w' es)(d:Nat):deafBehind d es=d:=by
 obtain⟨l⟩:=es
 rw[deafBehind,List.foldl_toArray']
 ·exact xA l d fun e he=>ht.uM e (by simpa using he)
 ·simp
theorem Inv.work(h:Inv E L K gs w t D pend cl main d0)(hm:gF E main){o:ι}{f:World→Tree}(hi:D[i]?=some (.work o (.node f))) (hg:gs[i+1]?=some g):
 qn E L K D pend cl main d0 (crowd gs w sl) sl t (i+1):=by
 obtain⟨fp,dg,fg⟩:=h.base.ok i _ hi
 obtain rfl:fp=g:=by rw[hg] at dg;exact(Option.some.inj dg).symm
 obtain⟨hd,hs,gB⟩:=fg
 obtain⟨g',w',es,s',bS,bV,ht,htr⟩:=gB w (h.base.fit.jI _)
 obtain⟨k1,k2,k3,k4,k5,k6⟩:=h.sy.zo ht fp.frame.fn fp.frame.place
 refine h.go hm (r':= .work o (f w)) hi (by simp) (by simp) hg bS ⟨ht.os,ht.output⟩ k1 k2 k4 (h.base.fit.own ht _ _) ⟨?_,htr⟩ (fun op aB x hx hb=>absurd hb (k5 op aB x hx)) k6
  (fun _=>rfl) (fun e=>e) (fun _ e=>e) (fun e=>(by cases e)) (Nat.le_refl _) rfl (Fv (.mk f w)) fun cl' hw _=>h.qh (r':= .work o (f w)) hi k3 rfl rfl rfl rfl cl' hw
 rw[Deaf_own,ht.deaf];exact hd
theorem Inv.back(h:Inv E L K gs w t D pend cl main d0)(hm:gF E main){f:World→Tree}(hi:D[i]?=some (.back (.node f))) (hg:gs[i+1]?=some g):
 qn E L K D pend cl main d0 (crowd gs w sl) sl t (i+1):=by
 obtain⟨fp,dg,fg⟩:=h.base.ok i _ hi
 obtain rfl:fp=g:=by rw[hg] at dg;exact(Option.some.inj dg).symm
 obtain⟨hd,hs,gB⟩:=fg
 obtain⟨g',w',es,s',bS,bV,ht,htr⟩:=gB w (h.base.fit.jI _)
 obtain⟨k1,k2,k3,k4,k5,k6⟩:=h.sy.zo ht fp.frame.fn fp.frame.place
 refine h.go hm (r':= .back (f w)) hi (by simp) (by simp) hg bS ⟨ht.os,ht.output⟩ k1 k2 k4 (h.base.fit.own ht _ _) ⟨?_,htr⟩ (fun op aB x hx hb=>absurd hb (k5 op aB x hx)) k6
  (fun _=>rfl) (fun e=>e) (fun _ e=>e) (fun e=>(by cases e)) (Nat.le_refl _) rfl (Fv (.mk f w)) fun cl' hw _=>h.qh (r':= .back (f w)) hi k3 rfl rfl rfl rfl cl' hw
 rw[Deaf_own,ht.deaf];exact hd
theorem Inv.apH(h:Inv E L K gs w t D pend cl main d0)(hm:gF E main){k:WK}(hi:D[i]?=some (.st k (n+1))) (hg:gs[i+1]?=some g):
 qn E L K D pend cl main d0 (crowd gs w sl) sl t (i+1):=by
 obtain⟨fp,dg,fg⟩:=h.base.ok i _ hi
 obtain rfl:fp=g:=by rw[hg] at dg;exact(Option.some.inj dg).symm
 obtain⟨hK,hd,⟨hs,g',bS,hp⟩,VP⟩:=fg
 obtain⟨st,sm,ha,_⟩:=h.sy.cells
 have e0:MemOp.ofEvents (i+1) fp.frame.fn fp.frame.place #[]= #[]:=rfl
 refine h.go hm (r':= .st k n) (s':=K (i+1)) hi (by simp) (by simp) hg (bS w ⟨st,sm,ha⟩) ⟨rfl,rfl⟩ (h.sy.kW _) (h.sy.kC _) rfl ?_ ?_ (by rw[e0];simp) (by rw[e0];simp)
  (fun _=>rfl) (fun e=>e) (fun _ e=>e) (fun e=>(by cases e)) (by cases k<;>exact Nat.le_refl _) rfl (D5 (Nat.lt_succ_self n)) fun cl' hw _=>h.qh (r':= .st k n) hi rfl (by cases k<;>rfl) (by cases k<;>rfl) (by cases k<;>rfl) (by cases k<;>rfl) cl' hw
 ·rw[lQ,e0,Array.append_empty];exact h.base.fit
 ·rw[e0,Array.append_empty];exact⟨hK,hd,hp,VP⟩
end
theorem Md.d1{a c:Nat}{o:Option CK}(h:Md mx n a b c o st sm)(hn:1≤n)(ho:o≠none):
 ∃v wt:Nat,v+1=n∧wt≤1∧st=((v+1:Nat):Int)*KK+(wt:Int)∧sm=0∧a=0∧b=0∧c=0∧
  ((v=0∧wt=1)→Md mx v 1 0 0 o ((v:Int)*KK+(wt:Int)) 0)∧(¬(v=0∧wt=1)→Md mx v 0 0 0 o ((v:Int)*KK+(wt:Int)) 0):=by
 cases h with
 |start=>exact absurd rfl ho
 |kd=>exact⟨n-1,0,by omega,by omega,by rw[show n-1+1=n by omega];simp,rfl,rfl,rfl,rfl,fun h=>by omega,fun _=>by simpa using .kd⟩
 |w1 h1=>exact⟨n-1,0,by omega,by omega,by rw[show n-1+1=n by omega];simp,rfl,rfl,rfl,rfl,fun h=>by omega,fun _=>by simpa using .w1 (by omega)⟩
 |w2 h1 h2 h3=>exact⟨n-1,0,by omega,by omega,by rw[show n-1+1=n by omega];simp,rfl,rfl,rfl,rfl,fun h=>by omega,fun _=>by simpa using .w2 (by omega) h2 h3⟩
 |reg h1 h2=>
  refine⟨n-1,1,by omega,by omega,by rw[show n-1+1=n by omega];simp,rfl,rfl,rfl,rfl,fun h=>?_,fun h=>?_⟩
  ·rw[h.1];simpa using .l4 h1
  ·exact .reg h1 (by omega)
 |l4 _=>omega
 |l3 _=>omega
 |l2 _=>omega
 |sema _ _=>omega
 |over _=>omega
theorem Md.d2{a c:Nat}{o:Option CK}(h:Md mx n a b c o st sm)(hn:1≤a):st=1∧sm=0∧n=0∧a=1∧b=0∧c=0∧Md mx 0 0 1 0 o 1 0:=by
 cases h with
 |l4 h1=>exact⟨rfl,rfl,rfl,rfl,rfl,rfl,.l3 h1⟩
 |_=>omega
theorem Md.d3{a c:Nat}{o:Option CK}(h:Md mx n a b c o st sm)(hn:1≤b):st=1∧sm=0∧n=0∧a=0∧b=1∧c=0∧Md mx 0 0 0 1 o 0 0:=by
 cases h with
 |l3 h1=>exact⟨rfl,rfl,rfl,rfl,rfl,rfl,.l2 h1⟩
 |_=>omega
theorem Md.d4{a c:Nat}{o:Option CK}(h:Md mx n a b c o st sm)(hn:1≤c):st=0∧sm=0∧n=0∧a=0∧b=0∧c=1∧(o≠some .blk→Md mx 0 0 0 0 o 0 1):=by
 cases h with
 |l2 h1=>exact⟨rfl,rfl,rfl,rfl,rfl,rfl,fun h'=> .sema h1 fun e=>h' (by rw[e])⟩
 |_=>omega
theorem Md.run{a c:Nat}{o:Option CK}(h:Md mx n a b c o st sm){k:CK}(ho:o=some k)(hk:k.over):n=0∧a=0∧b=0∧c=0∧st=0∧sm=0:=by
 have nw:¬k.waits:=by cases k<;>simp_all[CK.over,CK.waits]
 cases h with
 |start=>cases ho
 |kd=>cases ho;exact hk.elim
 |w1 _=>cases ho;exact hk.elim
 |w2 _ _ _=>cases ho;exact hk.elim
 |reg h1 _=>cases ho;exact absurd h1 nw
 |l4 h1=>cases ho;exact absurd h1 nw
 |l3 h1=>cases ho;exact absurd h1 nw
 |l2 h1=>cases ho;exact absurd h1 nw
 |sema h1 _=>cases ho;exact absurd h1 nw
 |over _=>exact⟨rfl,rfl,rfl,rfl,rfl,rfl⟩
section
variable {ι:Type} {E:dS ι} {L:Nat→Option Obj} {K:Nat→St} {gs:Array Goroutine} {w w':World} {t u:Trace} {D:List (ar ι)} {pend d0:Nat} {cl:yX} {main:Goroutine} {sl:Option (Nat×Nat)}
 {i:Nat} {g g':Goroutine} {es:Array Event}
structure eO(E:dS ι)(w w':World):Prop where
 size:w'.heap.size=w.heap.size
 block:∀b,b≠E.Wg→w'.heap[b]?=w.heap[b]?
 same:Uk w w'
theorem eO.refl(w:World):eO E w w:=⟨rfl,fun _ _=>rfl,rfl,rfl⟩
theorem eO.set(w:World)(k:Nat)(v:Value):eO E w (w.setCell ⟨E.Wg,k,none⟩ v):=
 ⟨by simp[World.setCell],fun b hb=>by simp[World.setCell,Array.getElem?_modify,Ne.symm hb],rfl,rfl⟩
theorem Sy.Ar(h:Sy E L K gs w t D pend cl)(hf:Fit L K w t)(hj:j=0∨∃k r,j=k+1∧D[k]?=some r∧r.left=false) (hw:eO E w w') (yu:∀e∈es,iD E e) (fn:FuncId) (pos:String):
 Fit L K w' (t++MemOp.ofEvents j fn pos es):=by
 have ho:=iD.ops yu j fn pos
 obtain⟨st,sm,ha,_⟩:=h.cells
 refine hf.beside E.Wg j h.kW h.lW (lt_size ha) (Nat.le_of_eq hw.size.symm) (fun b hb _=>hw.block b hb) (fun op aB=>(ho op aB).1) fun op aB x hx=>?_
 obtain⟨h1,h2⟩:=(ho op aB).2.2 x hx
 refine⟨h1,fun sd p a uk hc=>h.plain j hj p a uk (.inl (by rw[hc.1];exact h1)) ?_⟩
 rcases hc.2.2.2 with h3|h3|h3
 ·exact h3
 ·rw[h2] at h3;cases h3
 ·rw[h2] at h3;cases h3.2.2
theorem Inv.xQ(h:Inv E L K gs w t D pend cl main d0)(hm:gF E main){k:WK}{r':ar ι}(hi:D[i]?=some (.st k 0)) (hg:gs[i+1]?=some g) (hgo:stepG E.P false g w= .go g' w' es)
 (hw:eO E w w') (yu:∀e∈es,iD E e) (SW:r'≠ .closer) (hr:nI E (t++MemOp.ofEvents (i+1) g.frame.fn g.frame.place es) (i+1) (K (i+1)) g' r')
 (Gh:(∃ic tr n,cl=some (ic,.run tr,n))→r'.cur=true→False)
 (Du:r'.cnt≤(ar.st (ι:=ι) k 0).cnt) (aei:r'.U9=none) (QN:tU r' (.st k 0))
  (mP:Md E.max (fx ar.cnt D+pend) (fx ar.c4 D) (fx ar.c3 D) (fx ar.c2 D) (cl.map (·.2.1)) st sm)
 (nz:∀cl':yX,cl'≠none→Md E.max (fx ar.cnt D+pend) (fx ar.c4 D) (fx ar.c3 D) (fx ar.c2 D) (cl'.map (·.2.1)) st sm→
  (mayWake E.P g=true→(g'.status= .running∨g'.status= .finished)→∀ic n,cl'≠some (ic,.blk,n))→
  ∃st sm,WgAt E.ty E.Wg w' st sm∧Md E.max (fx ar.cnt (D.set i r')+pend) (fx ar.c4 (D.set i r')) (fx ar.c3 (D.set i r')) (fx ar.c2 (D.set i r')) (cl'.map (·.2.1)) st sm)
 (Ys:(∃o,r'= .gA o)→main.status= .running:=by rintro⟨o,e⟩;cases e):
 qn E L K D pend cl main d0 (crowd gs w sl) sl t (i+1):=by
 have ho:=iD.ops yu (i+1) g.frame.fn g.frame.place
 have iG:cl≠none:=fun e=>by
  have:=h.sy.DF
  subst e
  exact this _ (List.mem_of_getElem? hi)
 refine h.go hm (r':=r') (s':=K (i+1)) hi (by simp) SW hg hgo hw.same (h.sy.kW _) (h.sy.kC _) (hw.block _ (Ne.symm h.sy.ne)) ?_ hr (fun op aB x hx _=>((ho op aB).2.2 x hx).2) (fun op aB=>(ho op aB).2.1)
  (fun _=>rfl) (fun e=>e.elim) (fun e e'=>(Gh e e').elim) (fun e=>(by cases e)) Du (by rw[aei];rfl) QN (fun cl' Dl hb=>?_) Ys
 ·rw[lQ]
  exact h.sy.Ar h.base.fit (.inr ⟨i,_,rfl,hi,rfl⟩) hw yu _ _
 ·refine nz cl' ?_ (mP.aoU Dl) hb
  cases Dl with
  |same=>exact iG
  |up ic=>simp
theorem Sj{cl:yX}(h:cl≠none):cl.map (·.2.1)≠none:=by cases cl<;>simp_all
theorem ajT{cl:yX}(h:∀ic n,cl≠some (ic,.blk,n)):cl.map (·.2.1)≠some .blk:=by
 match cl with
 |none=>simp
 |some (ic,c,n)=>intro e;simp only[Option.map_some,Option.some.injEq] at e;subst e;exact h ic n rfl
theorem J5{st4 st3 st2:Nat}{o:Option CK}{r r':ar ι}(hi:D[i]?=some r)
 (e1:n+r.cnt=fx ar.cnt D+pend+r'.cnt) (e4:st4+r.c4=fx ar.c4 D+r'.c4) (e3:st3+r.c3=fx ar.c3 D+r'.c3) (e2:st2+r.c2=fx ar.c2 D+r'.c2) (h:Md mx n st4 st3 st2 o st sm):
 Md mx (fx ar.cnt (D.set i r')+pend) (fx ar.c4 (D.set i r')) (fx ar.c3 (D.set i r')) (fx ar.c2 (D.set i r')) o st sm:=by
 have f1:=jB ar.cnt (y:=r') hi
 have f4:=jB ar.c4 (y:=r') hi
 have f3:=jB ar.c3 (y:=r') hi
 have f2:=jB ar.c2 (y:=r') hi
 rw[show fx ar.cnt (D.set i r')+pend=n by omega,show fx ar.c4 (D.set i r')=st4 by omega,show fx ar.c3 (D.set i r')=st3 by omega,show fx ar.c2 (D.set i r')=st2 by omega]
 exact h
theorem tD(f:ar ι→Nat){r:ar ι}(hi:D[i]?=some r):f r≤fx f D:=by
 have:=jB f (y:=ar.closer) hi
 have h0:=jB f (D:=D.set i .closer) (i:=i) (x:= .closer) (y:=r) (by rw[List.getElem?_set_self (List.getElem?_eq_some_iff.1 hi).1])
 rw[List.set_set,show D.set i r=D from by obtain⟨hl,rfl⟩:=List.getElem?_eq_some_iff.1 hi;simp] at h0
 have key:∀(D:List (ar ι)) (i:Nat) (r:ar ι),D[i]?=some r→f r≤fx f D:=by
  intro D
  induction D with
  |nil=>intro i r h;simp at h
  |cons a D ih=>
   intro i r h
   cases i with
   |zero=>simp only[List.getElem?_cons_zero,Option.some.injEq] at h;subst h;simp[fx]
   |succ i=>have:=ih i r (by simpa using h);simp only[fx,List.map_cons,List.sum_cons] at this ⊢;omega
 exact key D i r hi
theorem nM(k:Nat)(b:Bool):iD E ⟨.cell ⟨E.Wg,k,none⟩,b,true⟩:= .inr (.inr (.inr (.inr ⟨_,_,rfl,rfl⟩)))
theorem Inv.r0(h:Inv E L K gs w t D pend cl main d0)(hm:gF E main)(hi:D[i]?=some (.st .r0 0)) (hg:gs[i+1]?=some g):qn E L K D pend cl main d0 (crowd gs w sl) sl t (i+1):=by
 obtain⟨fp,dg,fg⟩:=h.base.ok i _ hi
 obtain rfl:fp=g:=by rw[hg] at dg;exact(Option.some.inj dg).symm
 obtain⟨hK,hd,⟨hs,g',bS,n,hp⟩,_⟩:=fg
 obtain⟨st,sm,ha,mP⟩:=h.sy.cells
 refine h.xQ hm (r':= .st .k1 n) hi hg (bS w) (eO.refl w) (by intro e he;simp at he;subst he;exact .inr (.inr (.inl rfl))) (by simp) ?_ (fun _ e=>(by cases e)) (Nat.le_refl _) rfl (fR (by simp[ar.mu,WK.Kp])) mP fun cl' hc BL _=>?_
 ·refine⟨hK,?_,hp,fun _=>⟨_,ConcN.RelBy.new hd _ _⟩⟩
  rw[Deaf_own,hd];rfl
 ·exact⟨st,sm,ha,J5 hi rfl rfl rfl rfl BL⟩
theorem Inv.k1(h:Inv E L K gs w t D pend cl main d0)(hm:gF E main)(hi:D[i]?=some (.st .k1 0)) (hg:gs[i+1]?=some g):qn E L K D pend cl main d0 (crowd gs w sl) sl t (i+1):=by
 obtain⟨fp,dg,fg⟩:=h.base.ok i _ hi
 obtain rfl:fp=g:=by rw[hg] at dg;exact(Option.some.inj dg).symm
 obtain⟨hK,hd,⟨hs,g',bS,n,hp⟩,Na⟩:=fg
 obtain⟨p,ir⟩:=Na rfl
 obtain⟨st,sm,ha,mP⟩:=h.sy.cells
 refine h.xQ hm (r':= .st .d1 n) hi hg (bS w) (eO.refl w) (by intro e he;simp at he;subst he;exact .inl rfl) (by simp) ?_ (fun _ e=>(by cases e)) (Nat.le_refl _) rfl (fR (by simp[ar.mu,WK.Kp])) mP fun cl' hc BL _=>?_
 ·refine⟨hK,?_,hp,fun _=>⟨p,ConcN.RelBy.appOwn ir _ _ _ fun j e he=> .inl ?_⟩⟩
  ·rw[Deaf_own,hd];rfl
  ·have:=Array.mem_of_getElem? he;simp at this;subst this;rfl
 ·exact⟨st,sm,ha,J5 hi rfl rfl rfl rfl BL⟩
theorem Inv.d1(h:Inv E L K gs w t D pend cl main d0)(hm:gF E main)(hi:D[i]?=some (.st .d1 0)) (hg:gs[i+1]?=some g):qn E L K D pend cl main d0 (crowd gs w sl) sl t (i+1):=by
 obtain⟨fp,dg,fg⟩:=h.base.ok i _ hi
 obtain rfl:fp=g:=by rw[hg] at dg;exact(Option.some.inj dg).symm
 obtain⟨hK,hd,az4,Na⟩:=fg
 obtain⟨p,ir⟩:=Na rfl
 obtain⟨st,sm,ha,mP⟩:=h.sy.cells
 have iG:cl≠none:=fun e=>by
  have:=h.sy.DF
  subst e
  exact this _ (List.mem_of_getElem? hi)
 have hn:1≤fx ar.cnt D+pend:=Nat.le_trans (tD ar.cnt hi) (Nat.le_add_right _ _)
 obtain⟨v,wt,hv,hwt,rfl,rfl,ea,eb,ec,_,_⟩:=mP.d1 hn (Sj iG)
 have H9:=h.sy.Bw
 obtain⟨hs,dr⟩:=az4
 obtain⟨g',bS,Pr,LD⟩:=dr v wt hwt (by omega)
 have anC:ConcN.RelBy (stA E.Wg) (t++MemOp.ofEvents (i+1) fp.frame.fn fp.frame.place #[rd (stA E.Wg),wr (stA E.Wg)]) (i+1) p:=by
  refine ConcN.RelBy.appOwn ir _ _ _ fun j e he=> .inr ?_
  have Ec:Deaf t (i+1)=1:=hd
  match j,he with
  |0,he=>simp at he;subst he;exact⟨⟨_,_,rfl⟩,by simp[deafBehind,Ec]⟩
  |1,he=>simp at he;subst he;exact⟨⟨_,_,rfl⟩,by simp[deafBehind,Ec,rd]⟩
  |j+2,he=>simp at he
 have yy:Deaf (t++MemOp.ofEvents (i+1) fp.frame.fn fp.frame.place #[rd (stA E.Wg),wr (stA E.Wg)]) (i+1)=1:=by rw[Deaf_own,hd];rfl
 have yu:∀e∈ #[rd (stA E.Wg),wr (stA E.Wg)],iD E e:=by intro e he;simp at he;rcases he with rfl|rfl<;>exact nM 0 _
 have bV:¬ ∃ic tr n,cl=some (ic,CK.run tr,n):=fun⟨ic,tr,n,e⟩=>by
  have:=mP.run (k:= .run tr) (by rw[e];rfl) trivial
  omega
 by_cases hb:v=0∧wt=1
 ·obtain⟨n,hp⟩:=Pr hb
  refine h.xQ hm (r':= .st .d2 n) hi hg (bS w ha) (eO.set w 0 _) yu (by simp) ⟨hK,yy,hp,fun _=>⟨p,anC⟩⟩ (fun _ e=>(by cases e)) (Nat.zero_le _) rfl (fR (by simp[ar.mu,WK.Kp])) mP fun cl' hc BL _=>?_
  obtain⟨v',wt',hv',aN7,est,_,_,_,_,h1,_⟩:=BL.d1 hn (Sj hc)
  have:v'=v:=by omega
  subst this
  have:wt'=wt:=by omega
  subst this
  exact⟨_,_,Go.ConcR.WgAt.setSt ha _,J5 hi (by simp[ar.cnt];omega) (by simp[ar.c4];omega) (by simp[ar.c3];omega) (by simp[ar.c2];omega) (h1 hb)⟩
 ·obtain⟨q,hq⟩:=LD hb
  refine h.xQ hm (r':= .leave q 1 true) hi hg (bS w ha) (eO.set w 0 _) yu (by simp) ⟨hK,hq,yy,fun _=>⟨p,anC⟩,fun e=>(by cases e)⟩ (fun e _=>bV e) (Nat.zero_le _) rfl (fR (by simp[ar.mu,WK.Kp])) mP fun cl' hc BL _=>?_
  obtain⟨v',wt',hv',aN7,est,_,_,_,_,_,h1⟩:=BL.d1 hn (Sj hc)
  have:v'=v:=by omega
  subst this
  have:wt'=wt:=by omega
  subst this
  exact⟨_,_,Go.ConcR.WgAt.setSt ha _,J5 hi (by simp[ar.cnt];omega) (by simp[ar.c4];omega) (by simp[ar.c3];omega) (by simp[ar.c2];omega) (h1 hb)⟩
theorem Inv.d2(h:Inv E L K gs w t D pend cl main d0)(hm:gF E main)(hi:D[i]?=some (.st .d2 0)) (hg:gs[i+1]?=some g):qn E L K D pend cl main d0 (crowd gs w sl) sl t (i+1):=by
 obtain⟨fp,dg,fg⟩:=h.base.ok i _ hi
 obtain rfl:fp=g:=by rw[hg] at dg;exact(Option.some.inj dg).symm
 obtain⟨hK,hd,⟨hs,g',bS,n,hp⟩,Na⟩:=fg
 obtain⟨p,ir⟩:=Na rfl
 obtain⟨st,sm,ha,mP⟩:=h.sy.cells
 have hn:1≤fx ar.c4 D:=tD ar.c4 hi
 obtain⟨rfl,rfl,e1,e4,e3,e2,_⟩:=mP.d2 hn
 refine h.xQ hm (r':= .st .d3 n) hi hg (bS w ha) (eO.refl w) (by intro e he;simp at he;subst he;exact nM 0 _) (by simp) ?_ (fun _ e=>(by cases e)) (Nat.le_refl _) rfl (fR (by simp[ar.mu,WK.Kp])) mP fun cl' hc BL _=>?_
 ·refine⟨hK,?_,hp,fun _=>⟨p,ConcN.RelBy.appOwn ir _ _ _ fun j e he=> .inr ?_⟩⟩
  ·rw[Deaf_own,hd];rfl
  ·have Ec:Deaf t (i+1)=1:=hd
   match j,he with
   |0,he=>simp at he;subst he;exact⟨⟨_,_,rfl⟩,by simp[deafBehind,Ec]⟩
   |j+1,he=>simp at he
 ·exact⟨_,_,ha,J5 hi (by simp[ar.cnt];omega) (by simp[ar.c4];omega) (by simp[ar.c3];omega) (by simp[ar.c2];omega) (BL.d2 hn).2.2.2.2.2.2⟩
theorem Inv.d3(h:Inv E L K gs w t D pend cl main d0)(hm:gF E main)(hi:D[i]?=some (.st .d3 0)) (hg:gs[i+1]?=some g):qn E L K D pend cl main d0 (crowd gs w sl) sl t (i+1):=by
 obtain⟨fp,dg,fg⟩:=h.base.ok i _ hi
 obtain rfl:fp=g:=by rw[hg] at dg;exact(Option.some.inj dg).symm
 obtain⟨hK,hd,⟨hs,g',bS,n,hp⟩,Na⟩:=fg
 obtain⟨p,ir⟩:=Na rfl
 obtain⟨st,sm,ha,mP⟩:=h.sy.cells
 have hn:1≤fx ar.c3 D:=tD ar.c3 hi
 obtain⟨rfl,rfl,e1,e4,e3,e2,_⟩:=mP.d3 hn
 refine h.xQ hm (r':= .st .d4 n) hi hg (bS w ha) (eO.set w 0 _) (by intro e he;simp at he;subst he;exact nM 0 _) (by simp) ?_ (fun _ e=>(by cases e)) (Nat.le_refl _) rfl (fR (by simp[ar.mu,WK.Kp])) mP fun cl' hc BL _=>?_
 ·refine⟨hK,?_,hp,fun _=>⟨p,ConcN.RelBy.appOwn ir _ _ _ fun j e he=> .inr ?_⟩⟩
  ·rw[Deaf_own,hd];rfl
  ·have Ec:Deaf t (i+1)=1:=hd
   match j,he with
   |0,he=>simp at he;subst he;exact⟨⟨_,_,rfl⟩,by simp[deafBehind,Ec]⟩
   |j+1,he=>simp at he
 ·exact⟨_,_,Go.ConcR.WgAt.setSt ha _,J5 hi (by simp[ar.cnt];omega) (by simp[ar.c4];omega) (by simp[ar.c3];omega) (by simp[ar.c2];omega) (BL.d3 hn).2.2.2.2.2.2⟩
theorem Inv.d4(h:Inv E L K gs w t D pend cl main d0)(hm:gF E main)(hi:D[i]?=some (.st .d4 0)) (hg:gs[i+1]?=some g):qn E L K D pend cl main d0 (crowd gs w sl) sl t (i+1):=by
 obtain⟨fp,dg,fg⟩:=h.base.ok i _ hi
 obtain rfl:fp=g:=by rw[hg] at dg;exact(Option.some.inj dg).symm
 obtain⟨hK,hd,⟨hs,hmw,g',bS,q,hq⟩,Na⟩:=fg
 obtain⟨p,ir⟩:=Na rfl
 obtain⟨st,sm,ha,mP⟩:=h.sy.cells
 have hn:1≤fx ar.c2 D:=tD ar.c2 hi
 obtain⟨rfl,rfl,e1,e4,e3,e2,_⟩:=mP.d4 hn
 have Ec:Deaf t (i+1)=1:=hd
 have bV:¬ ∃ic tr n,cl=some (ic,CK.run tr,n):=fun⟨ic,tr,n,e⟩=>by
  have:=mP.run (k:= .run tr) (by rw[e];rfl) trivial
  omega
 refine h.xQ hm (r':= .leave q 1 true) hi hg (bS w ha) (eO.set w 1 _) (by
  intro e he;simp[semEvents] at he
  rcases he with rfl|rfl|rfl|rfl
  ·exact .inl rfl
  ·exact nM 1 _
  ·exact nM 1 _
  ·exact .inr (.inl rfl)) (by simp) ?_ (fun e _=>bV e) (Nat.le_refl _) rfl (fR (by simp[ar.mu,WK.Kp])) mP fun cl' hc BL hb=>?_
 ·refine⟨hK,hq,?_,fun _=>⟨p,ConcN.RelBy.appOwn ir _ _ _ fun j e he=>?_⟩,fun e=>(by cases e)⟩
  ·rw[Deaf_own,hd];rfl
  ·match j,he with
   |0,he=>simp[semEvents] at he;subst he;exact .inl rfl
   |1,he=>simp[semEvents] at he;subst he;exact .inr ⟨⟨_,_,rfl⟩,by simp[deafBehind,Ec,semEvents]⟩
   |2,he=>simp[semEvents] at he;subst he;exact .inr ⟨⟨_,_,rfl⟩,by simp[deafBehind,Ec,semEvents]⟩
   |3,he=>simp[semEvents] at he;subst he;exact .inl rfl
   |j+4,he=>simp[semEvents] at he
 ·exact⟨_,_,Go.ConcR.WgAt.setSm ha _,J5 hi (by simp[ar.cnt];omega) (by simp[ar.c4];omega) (by simp[ar.c3];omega) (by simp[ar.c2];omega) ((BL.d4 hn).2.2.2.2.2.2 (ajT (hb hmw hq.status)))⟩
end
def CK.phi(mx:Nat):CK→Nat
 | .kd=>2*mx+9
 | .w1 b=>2*b+8
 | .w2 b _=>2*b+9
 | .wr=>7
 | .w3| .blk=>6
 | .w4=>5
 | .ke=>4
 | .aq=>3
 | .run _=>2
def CK.tree:CK→Tree
 | .run tr=>tr
 |_=> .leaf
def m9(mx:Nat):yX→Nat×Tree×Nat
 |none=>(0,.leaf,0)
 |some (_,c,n)=>(c.phi mx,c.tree,n)
section
variable {ι:Type} {E:dS ι} {L:Nat→Option Obj} {K:Nat→St} {gs:Array Goroutine} {w w':World} {t u:Trace} {D:List (ar ι)} {pend d0:Nat} {main:Goroutine} {sl:Option (Nat×Nat)}
 {ic:Nat} {g g':Goroutine} {es:Array Event} {c:CK} {n:Nat}
def Qx(E:dS ι)(L:Nat→Option Obj)(K:Nat→St)(D:List (ar ι))(pend:Nat)(ic:Nat)(c:CK)(n:Nat)(main:Goroutine)(d0:Nat)(m:Machine)(sl:Option (Nat×Nat))(t:Trace):Prop:=
 ∃K' kR w' u c' n',runT E.P m (ic+1)=(.next (crowd kR w' sl),u)∧Inv E L K' kR w' (t++u) D pend (some (ic,c',n')) main d0∧K' 0=K 0∧DK (m9 E.max (some (ic,c',n'))) (m9 E.max (some (ic,c,n)))
theorem Inv.goC(h:Inv E L K gs w t D pend (some (ic,c,n)) main d0)(hm:gF E main){c':CK} 
 (hg:gs[ic+1]?=some g) (hgo:stepG E.P false g w= .go g' w' es) (O9:Uk w w')
 (cy:¬s'.knows E.Wg) (pY:¬s'.knows E.Ch) (uL:w'.heap[E.Ch]?=w.heap[E.Ch]?)
 (oW:Fit L (fL K (ic+1) s') w' (t++MemOp.ofEvents (ic+1) g.frame.fn g.frame.place es))
 (kM:∀op∈MemOp.ofEvents (ic+1) g.frame.fn g.frame.place es,∀x,op.act.touch?=some x→E.At x→x.kind≠ .plain)
 (VP:c'.early→c.early∧∀op∈MemOp.ofEvents (ic+1) g.frame.fn g.frame.place es,∀x,op.act.touch?=some x→blk x.loc=some E.Wg→x.kind≠ .said)
 (ir:∀op∈MemOp.ofEvents (ic+1) g.frame.fn g.frame.place es,∀a,op.act≠ .mark (.release a))
 (nz:∃st sm,WgAt E.ty E.Wg w' st sm∧Md E.max (fx ar.cnt D+pend) (fx ar.c4 D) (fx ar.c3 D) (fx ar.c2 D) (some c') st sm)
 (yy:deafBehind c.deaf es=c'.deaf) (py:c'.at E s' g' n') (Tc:(∃tr,c'= .run tr)→AcqAll E (t++MemOp.ofEvents (ic+1) g.frame.fn g.frame.place es) D ic)
 (QN:DK (m9 E.max (some (ic,c',n'))) (m9 E.max (some (ic,c,n)))):
 Qx E L K D pend ic c n main d0 (crowd gs w sl) sl t:=by
 have hu:∀op∈MemOp.ofEvents (ic+1) g.frame.fn g.frame.place es,op.g=ic+1:=fun op aB=>Go.ConcR.g_of_ofEvents op aB
 obtain⟨h1,h2,h3,⟨gc,Eb,bdh⟩,h5⟩:=h.sy.DF
 have cK:=(List.getElem?_eq_some_iff.1 h1).1
 obtain⟨sn,rc,tm,hc⟩:=h.sy.chan
 have sC:w'.heap[E.Ch]?=some (.chan 0 #[] false sn rc tm):=by rw[uL];exact hc
 have eD:D.set ic ar.closer=D:=by obtain⟨hl,e⟩:=List.getElem?_eq_some_iff.1 h1;rw[←e];simp
 have V9:=h.base.step (g:=g) (g':=g') (r':= .closer) cK hu O9 oW trivial fun _ _ _ _=>⟨sn,rc,tm,sC⟩
 rw[eD] at V9
 have bV:=runT_crowd_go (P:=E.P) (sl:=sl) (i:=ic+1) hg (by simpa using hgo)
 have HB:∀b,¬s'.knows b→(∀j,¬(K j).knows b)→∀j,¬(fL K (ic+1) s' j).knows b:=fun b h1 h2 j=>by
  by_cases e:j=ic+1
  ·subst e;rw[aF];exact h1
  ·rw[aH _ _ e];exact h2 j
 have old:∀p x,touchAt (t++MemOp.ofEvents (ic+1) g.frame.fn g.frame.place es) p=some x→E.At x→x.kind= .plain→touchAt t p=some x:=fun p x hx hb hk=>by
  rcases bF hx with ⟨_,h'⟩| ⟨_,op,hm,_,xp⟩
  ·exact h'
  ·exact absurd hk (kM op hm x xp hb)
 refine⟨_,_,w',_,c',n',bV,⟨V9,⟨HB _ cy h.sy.kW,HB _ pY h.sy.kC,h.sy.lW,h.sy.lC,h.sy.ne,fun a=>(h.sy.norel a).app fun op aB=>ir op aB a,fun j hj p x hx hb hk=>(h.sy.plain j hj p x (old p x hx hb hk) hb hk).app _,fun he p x hx hb hk=>?_,nz,h.sy.Bw,⟨sn,rc,tm,sC⟩,fun sn rc tm hc=>h.sy.bal sn rc tm (by rw[←uL];exact hc),
  ⟨h1,h2,by rw[Deaf_own,h3];exact yy,⟨g',by simp[h.base.size,cK],by rw[aF];exact py⟩,Tc⟩⟩,?_,?_⟩,aH _ _ (by omega),QN⟩
 ·rcases bF hx with ⟨_,h'⟩| ⟨_,op,hm,_,xp⟩
  ·exact(h.sy.said (VP he).1 p x h' hb hk).app _
  ·exact absurd hk ((VP he).2 op hm x xp hb)
 ·rw[fY (by omega) h.main,hm.woken _ _ sC]
 ·rw[gP _ _ fun op aB=>by rw[hu op aB];omega];exact h.deaf
theorem Inv.xm(h:Inv E L K gs w t D pend (some (ic,c,n)) main d0)(hm:gF E main){c':CK} 
 (hg:gs[ic+1]?=some g) (hgo:stepG E.P false g w= .go g' w' es) (hw:eO E w w') (yu:∀e∈es,iD E e) (yw:c'.early→c.early)
 (nz:∃st sm,WgAt E.ty E.Wg w' st sm∧Md E.max (fx ar.cnt D+pend) (fx ar.c4 D) (fx ar.c3 D) (fx ar.c2 D) (some c') st sm)
 (yy:deafBehind c.deaf es=c'.deaf) (py:c'.at E (K (ic+1)) g' n') (Tc:(∃tr,c'= .run tr)→AcqAll E (t++MemOp.ofEvents (ic+1) g.frame.fn g.frame.place es) D ic)
 (QN:DK (m9 E.max (some (ic,c',n'))) (m9 E.max (some (ic,c,n)))):
 Qx E L K D pend ic c n main d0 (crowd gs w sl) sl t:=by
 have ho:=iD.ops yu (ic+1) g.frame.fn g.frame.place
 refine h.goC hm hg hgo hw.same (h.sy.kW _) (h.sy.kC _) (hw.block _ (Ne.symm h.sy.ne)) ?_ (fun op aB x hx _=>by rw[((ho op aB).2.2 x hx).2];simp) (fun e=>⟨yw e,fun op aB x hx _=>by rw[((ho op aB).2.2 x hx).2];simp⟩)
  (fun op aB=>(ho op aB).2.1) nz yy py Tc QN
 rw[lQ]
 exact h.sy.Ar h.base.fit (.inr ⟨ic,_,rfl,h.sy.DF.1,rfl⟩) hw yu _ _
theorem Inv.Ct(h:Inv E L K gs w t D pend (some (ic,c,n)) main d0)(hm:gF E main)(hg:gs[ic+1]?=some g) (QL:∀tr,c≠ .run tr)
 (bS:∀w,E.live w→stepG E.P false g w= .go g' w #[]) (py:c.at E (K (ic+1)) g' n') (hn:n' <n):Qx E L K D pend ic c n main d0 (crowd gs w sl) sl t:=by
 obtain⟨st,sm,ha,mP⟩:=h.sy.cells
 exact h.xm hm hg (bS w ⟨st,sm,ha⟩) (eO.refl w) (by simp) (fun e=>e) ⟨st,sm,ha,mP⟩ rfl py (fun⟨tr,e⟩=>absurd e (QL tr)) (D5 hn)
theorem Md.zero{a c:Nat}{k:CK}(h:Md mx n a b c (some k) st sm)(hk:k= .kd∨(∃b,k= .w1 b)∨∃b v,k= .w2 b v):st=(n:Int)*KK∧sm=0∧a=0∧b=0∧c=0∧(∀b,k= .w1 b→n≤b)∧∀b v,k= .w2 b v→n≤v∧1≤v∧v≤b+1:=by
 have nw:¬k.waits∧¬k.over:=by rcases hk with rfl| ⟨_,rfl⟩| ⟨_,_,rfl⟩<;>exact⟨id,id⟩
 cases h with
 |kd=>exact⟨rfl,rfl,rfl,rfl,rfl,(fun _ e=>(by cases e)),(fun _ _ e=>(by cases e))⟩
 |w1 h1=>exact⟨rfl,rfl,rfl,rfl,rfl,(fun _ e=>by cases e;exact h1),(fun _ _ e=>(by cases e))⟩
 |w2 h1 h2 h3=>exact⟨rfl,rfl,rfl,rfl,rfl,(fun _ e=>(by cases e)),(fun _ _ e=>by cases e;exact⟨h1,h2,h3⟩)⟩
 |reg h1 _=>exact absurd h1 nw.1
 |l4 h1=>exact absurd h1 nw.1
 |l3 h1=>exact absurd h1 nw.1
 |l2 h1=>exact absurd h1 nw.1
 |sema h1 _=>exact absurd h1 nw.1
 |over h1=>exact absurd h1 nw.2
theorem Md.waiting{a c:Nat}{k k':CK}(h:Md mx n a b c (some k) st sm)(hk:k.waits)(jD:k'.waits)(hb:k'≠ .blk∨sm=0):Md mx n a b c (some k') st sm:=by
 cases h with
 |kd=>exact hk.elim
 |w1 _=>exact hk.elim
 |w2 _ _ _=>exact hk.elim
 |reg _ h2=>exact .reg jD h2
 |l4 _=>exact .l4 jD
 |l3 _=>exact .l3 jD
 |l2 _=>exact .l2 jD
 |sema _ _=>exact .sema jD (hb.resolve_right (by decide))
 |over h1=>cases k<;>first|exact hk.elim|exact h1.elim
theorem Md.up{a c:Nat}{k:CK}(h:Md mx n a b c (some k) st sm)(hk:k.waits):(∃x,x=st∧sm=0)∨(st=0∧sm=1∧n=0∧a=0∧b=0∧c=0):=by
 cases h with
 |kd=>exact hk.elim
 |w1 _=>exact hk.elim
 |w2 _ _ _=>exact hk.elim
 |reg _ _=>exact .inl ⟨_,rfl,rfl⟩
 |l4 _=>exact .inl ⟨_,rfl,rfl⟩
 |l3 _=>exact .inl ⟨_,rfl,rfl⟩
 |l2 _=>exact .inl ⟨_,rfl,rfl⟩
 |sema _ _=>exact .inr ⟨rfl,rfl,rfl,rfl,rfl,rfl⟩
 |over h1=>cases k<;>first|exact hk.elim|exact h1.elim
theorem Xv:(∀e∈ #[said .disable],iD E e)∧(∀e∈ #[said .enable],iD E e)∧(∀e∈ #[said (.acquire (stA E.Wg))],iD E e)∧(∀e∈ #[rd (stA E.Wg)],iD E e)∧(∀e∈ #[rd (stA E.Wg),wr (stA E.Wg)],iD E e)∧(∀e∈semEvents (smA E.Wg),iD E e):=by
 refine⟨?_,?_,?_,?_,?_,?_⟩
 ·intro e he;simp at he;subst he;exact .inl rfl
 ·intro e he;simp at he;subst he;exact .inr (.inl rfl)
 ·intro e he;simp at he;subst he;exact .inr (.inr (.inr (.inl rfl)))
 ·intro e he;simp at he;subst he;exact nM 0 _
 ·intro e he;simp at he;rcases he with rfl|rfl<;>exact nM 0 _
 ·intro e he;simp[semEvents] at he
  rcases he with rfl|rfl|rfl|rfl
  ·exact .inl rfl
  ·exact nM 1 _
  ·exact nM 1 _
  ·exact .inr (.inl rfl)
end
section
variable {ι:Type} {E:dS ι} {L:Nat→Option Obj} {K:Nat→St} {gs:Array Goroutine} {w w':World} {t u:Trace} {D:List (ar ι)} {pend d0:Nat} {main:Goroutine} {sl:Option (Nat×Nat)}
 {ic:Nat} {g g':Goroutine} {es:Array Event} {c:CK} {n:Nat}
theorem Inv.closer(h:Inv E L K gs w t D pend (some (ic,c,n)) main d0)(hm:gF E main)(hg:gs[ic+1]?=some g) (hs:g.status= .running) (QL:c≠ .run .leaf):
 Qx E L K D pend ic c n main d0 (crowd gs w sl) sl t:=by
 obtain⟨_,_,yy,⟨gc,Eb,py⟩,Tc⟩:=h.sy.DF
 obtain rfl:gc=g:=by rw[hg] at Eb;exact(Option.some.inj Eb).symm
 obtain⟨st,sm,ha,mP⟩:=h.sy.cells
 obtain⟨s1,s2,s3,s4,s5,s6⟩:=Xv (E:=E)
 cases c with
 |kd=>
  cases n with
  |succ n=>obtain⟨_,g',bS,hp⟩:=py;exact h.Ct hm hg (by simp) bS hp (Nat.lt_succ_self n)
  |zero=>
   obtain⟨_,g',bS,n',hp⟩:=py
   obtain⟨rfl,rfl,e4,e3,e2,_⟩:=mP.zero (.inl rfl)
   refine h.xm hm (c':= .w1 E.max) hg (bS w) (eO.refl w) s1 (fun _=>trivial) ⟨_,_,ha,?_⟩ rfl hp (fun⟨_,e⟩=>(by cases e)) (fR (by simp[m9,CK.phi]))
   rw[e4,e3,e2];exact .w1 h.sy.Bw
 |w1 b=>
  cases n with
  |succ n=>
   have:∃g',(∀w,E.live w→stepG E.P false gc w= .go g' w #[])∧Pure E.P false E.live (E.W1 (K (ic+1)) b) n g':=py.2
   obtain⟨g',bS,hp⟩:=this
   exact h.Ct hm hg (by simp) bS hp (Nat.lt_succ_self n)
  |zero=>
   obtain⟨rfl,rfl,e4,e3,e2,hb,_⟩:=mP.zero (.inr (.inl ⟨b,rfl⟩))
   have hle:=hb b rfl
   rw[e4,e3,e2] at mP
   have out:(∃g',(∀w,WgAt E.ty E.Wg w 0 0→stepG E.P false gc w= .go g' w #[rd (stA E.Wg)])∧E.pure false (E.Ke (K (ic+1))) g')→fx ar.cnt D+pend=0→Qx E L K D pend ic (.w1 b) 0 main d0 (crowd gs w sl) sl t:=by
    rintro⟨g',bS,n',hp⟩ h0
    rw[h0] at ha
    have uk:WgAt E.ty E.Wg w 0 0:=by simpa using ha
    refine h.xm hm (c':= .ke) hg (bS w uk) (eO.refl w) s4 (fun e=>e.elim) ⟨_,_,uk,?_⟩ rfl hp (fun⟨_,e⟩=>(by cases e)) (fR (by simp[m9,CK.phi]))
    rw[e4,e3,e2,h0];exact .over trivial
   cases b with
   |zero=>exact out py.2 (by omega)
   |succ b=>
    obtain⟨_,h0,hv⟩:=py
    by_cases hz:fx ar.cnt D+pend=0
    ·exact out h0 hz
    ·obtain⟨g',bS,n',hp⟩:=hv (fx ar.cnt D+pend) (by omega) hle
     refine h.xm hm (c':= .w2 b (fx ar.cnt D+pend)) hg (bS w ha) (eO.refl w) s4 (fun _=>trivial) ⟨_,_,ha,?_⟩ rfl hp (fun⟨_,e⟩=>(by cases e)) (fR (by simp only[m9,CK.phi];omega))
     rw[e4,e3,e2];exact .w2 (Nat.le_refl _) (by omega) hle
 |w2 b v=>
  cases n with
  |succ n=>obtain⟨_,g',bS,hp⟩:=py;exact h.Ct hm hg (by simp) bS hp (Nat.lt_succ_self n)
  |zero=>
   obtain⟨rfl,rfl,e4,e3,e2,_,hb⟩:=mP.zero (.inr (.inr ⟨b,v,rfl⟩))
   obtain⟨h1,h2,h3⟩:=hb b v rfl
   obtain⟨_,⟨fp,aOy,n1,hp1⟩,aAO⟩:=py
   by_cases hv:fx ar.cnt D+pend=v
   ·rw[hv] at ha
    refine h.xm hm (c':= .wr) hg (aOy w ha) (eO.set w 0 _) s5 (fun _=>trivial) ⟨_,_,Go.ConcR.WgAt.setSt ha _,?_⟩ rfl hp1 (fun⟨_,e⟩=>(by cases e)) (fR (by simp only[m9,CK.phi];omega))
    rw[e4,e3,e2,hv];exact .reg trivial h2
   ·obtain⟨p8,aOx,n2,QK⟩:=aAO (fx ar.cnt D+pend) (by omega)
    refine h.xm hm (c':= .w1 b) hg (aOx w ha) (eO.refl w) s4 (fun _=>trivial) ⟨_,_,ha,?_⟩ rfl QK (fun⟨_,e⟩=>(by cases e)) (fR (by simp only[m9,CK.phi];omega))
    rw[e4,e3,e2];exact .w1 (by omega)
 |wr=>
  cases n with
  |succ n=>obtain⟨_,g',bS,hp⟩:=py;exact h.Ct hm hg (by simp) bS hp (Nat.lt_succ_self n)
  |zero=>
   obtain⟨_,g',bS,n',hp⟩:=py
   have e1:MemOp.ofEvents (ic+1) gc.frame.fn gc.frame.place #[said (.write (smA E.Wg))]= #[{g:=ic+1,fn:=gc.frame.fn,pos:=gc.frame.place,act:= .mark (.write (smA E.Wg))}]:=by rw[ofEvents_eq];simp[said,Go.ConcR.ofEvent_mk]
   refine h.goC hm (c':= .w3) (n':=n'+1) (s':=K (ic+1)) hg (bS w) ⟨rfl,rfl⟩ (h.sy.kW _) (h.sy.kC _) rfl ?_ (fun op aB x hx _=>?_) (fun e=>e.elim) (fun op aB=>?_)
    ⟨_,_,ha,mP.waiting trivial trivial (.inl (by simp))⟩ rfl ⟨n',rfl,hp⟩ (fun⟨_,e⟩=>(by cases e)) (fR (by simp[m9,CK.phi]))
   ·rw[lQ,e1]
    refine h.base.fit.beside E.Wg (ic+1) h.sy.kW h.sy.lW (lt_size ha) (Nat.le_refl _) (fun _ _ _=>rfl) (by simp) fun op aB x hx=>?_
    simp only[List.mem_toArray,List.mem_singleton] at aB
    subst aB
    simp only[MemAct.touch?,Option.some.injEq] at hx
    subst hx
    refine⟨rfl,fun sd p a uk hc=>?_⟩
    have hl:blk a.loc=some E.Wg:=by rw[hc.1];rfl
    rcases hc.2.2.2 with h3|h3|h3
    ·exact h.sy.plain _ (.inr ⟨ic,_,rfl,h.sy.DF.1,rfl⟩) p a uk (.inl hl) h3
    ·cases h3
    ·exact h.sy.said trivial p a uk hl h3.2.1
   ·rw[e1] at aB
    simp only[List.mem_toArray,List.mem_singleton] at aB
    subst aB
    simp only[MemAct.touch?,Option.some.injEq] at hx
    subst hx
    simp
   ·rw[e1] at aB
    simp only[List.mem_toArray,List.mem_singleton] at aB
    subst aB
    simp
 |w3=>
  obtain⟨m,rfl,hp⟩:=py
  cases m with
  |succ m=>obtain⟨_,g',bS,hp⟩:=hp;exact h.Ct hm hg (by simp) bS ⟨m,rfl,hp⟩ (Nat.lt_succ_self _)
  |zero=>
   have hp0:E.W3 (K (ic+1)) gc:=hp
   obtain⟨h1,h2,hb,g',bS,n',hp⟩:=hp
   rcases mP.up trivial with ⟨_,rfl,rfl⟩| ⟨rfl,rfl,e1,e4,e3,e2⟩
   ·refine h.xm hm (c':= .blk) (n':=0) hg (hb w _ ha) (eO.refl w) (by simp) (fun e=>e.elim) ⟨_,_,ha,mP.waiting trivial trivial (.inr rfl)⟩ rfl ⟨rfl,gc,hp0,rfl⟩ (fun⟨_,e⟩=>(by cases e)) (D5 (Nat.lt_succ_self 0))
   ·refine h.xm hm (c':= .w4) hg (bS w ha) (eO.set w 1 _) s6 (fun e=>e.elim) ⟨_,_,Go.ConcR.WgAt.setSm ha _,?_⟩ rfl hp (fun⟨_,e⟩=>(by cases e)) (fR (by simp[m9,CK.phi]))
    rw[e1,e4,e3,e2];exact .over trivial
 |blk=>
  obtain⟨_,uD,_,e⟩:=py
  rw[e] at hs;cases hs
 |w4=>
  obtain⟨e1,e4,e3,e2,rfl,rfl⟩:=mP.run rfl trivial
  cases n with
  |succ n=>obtain⟨_,g',bS,hp⟩:=py;exact h.Ct hm hg (by simp) bS hp (Nat.lt_succ_self n)
  |zero=>
   obtain⟨_,g',bS,n',hp⟩:=py
   refine h.xm hm (c':= .ke) hg (bS w ha) (eO.refl w) s4 (fun e=>e.elim) ⟨_,_,ha,?_⟩ rfl hp (fun⟨_,e⟩=>(by cases e)) (fR (by simp[m9,CK.phi]))
   rw[e1,e4,e3,e2];exact .over trivial
 |ke=>
  obtain⟨e1,e4,e3,e2,rfl,rfl⟩:=mP.run rfl trivial
  cases n with
  |succ n=>obtain⟨_,g',bS,hp⟩:=py;exact h.Ct hm hg (by simp) bS hp (Nat.lt_succ_self n)
  |zero=>
   obtain⟨_,g',bS,n',hp⟩:=py
   refine h.xm hm (c':= .aq) hg (bS w) (eO.refl w) s2 (fun e=>e.elim) ⟨_,_,ha,?_⟩ rfl hp (fun⟨_,e⟩=>(by cases e)) (fR (by simp[m9,CK.phi]))
   rw[e1,e4,e3,e2];exact .over trivial
 |aq=>
  obtain⟨e1,e4,e3,e2,rfl,rfl⟩:=mP.run rfl trivial
  cases n with
  |succ n=>obtain⟨_,g',bS,hp⟩:=py;exact h.Ct hm hg (by simp) bS hp (Nat.lt_succ_self n)
  |zero=>
   obtain⟨_,g',bS,tr,ig,hle,hp⟩:=py
   have q1:MemOp.ofEvents (ic+1) gc.frame.fn gc.frame.place #[said (.acquire (stA E.Wg))]= #[{g:=ic+1,fn:=gc.frame.fn,pos:=gc.frame.place,act:= .mark (.acquire (stA E.Wg))}]:=by rw[ofEvents_eq];simp[said,Go.ConcR.ofEvent_mk]
   have hy:(t++ #[({g:=ic+1,fn:=gc.frame.fn,pos:=gc.frame.place,act:= .mark (.acquire (stA E.Wg))}:MemOp)])[t.size]?=some {g:=ic+1,fn:=gc.frame.fn,pos:=gc.frame.place,act:= .mark (.acquire (stA E.Wg))}:=by simp
   refine h.goC hm (c':= .run tr) (n':=0) (s':=ig) hg (bS w) ⟨rfl,rfl⟩ (fun hk=>h.sy.kW _ (hle.knows hk)) (fun hk=>h.sy.kC _ (hle.knows hk)) rfl ?_
    (fun op aB x hx _=>by rw[((iD.ops s3 _ _ _ op aB).2.2 x hx).2];simp) (fun e=>e.elim) (fun op aB=>(iD.ops s3 _ _ _ op aB).2.1) ⟨_,_,ha,?_⟩ rfl ⟨rfl,hp⟩ (fun _=>?_) (fR (by simp[m9,CK.phi]))
   ·refine(h.sy.Ar h.base.fit (.inr ⟨ic,_,rfl,h.sy.DF.1,rfl⟩) (eO.refl w) s3 _ _).le fun j=>?_
    by_cases e:j=ic+1
    ·subst e;rw[aF];exact hle
    ·rw[aH _ _ e];exact St.le_refl _
   ·rw[e1,e4,e3,e2];exact .over trivial
   ·rw[q1]
    refine⟨t.size,by rw[act?_of hy],by simp[Trace.g?],⟨ic+1,by simp[Trace.g?],by rw[deaf_old (Nat.le_refl _)];exact yy⟩,fun i r hi hc=>?_⟩
    obtain⟨x,hx,fg⟩:=h.base.ok i r hi
    cases r with
    |leave q d cur=>
     obtain⟨p,hp⟩:=fg.2.2.2.1 hc
     have eg:i≠ic:=fun e=>by subst e;rw[h.sy.DF.1] at hi;cases hi
     refine⟨p,RelBy.other hp (fun op aB=>by simp at aB;subst aB;simp;omega),lt_of_act? hp.act⟩
    |_=>cases hc
 |run tr=>
  obtain⟨e1,e4,e3,e2,rfl,rfl⟩:=mP.run rfl trivial
  obtain⟨rfl,hp⟩:=py
  cases tr with
  |leaf=>exact absurd rfl QL
  |node f=>
   obtain⟨_,gB⟩:=hp
   obtain⟨g',w',es,s',bS,bV,ht,htr⟩:=gB w (h.base.fit.jI _)
   obtain⟨k1,k2,k3,k4,k5,k6⟩:=h.sy.zo ht gc.frame.fn gc.frame.place
   refine h.goC hm (c':= .run (f w)) (n':=0) hg bS ⟨ht.os,ht.output⟩ k1 k2 k4 (h.base.fit.own ht _ _) (fun op aB x hx hb=>absurd hb (k5 op aB x hx)) (fun e=>e.elim) k6
    ⟨0,0,by unfold WgAt;rw[k3];exact ha,by rw[e1,e4,e3,e2];exact .over trivial⟩ (ht.deaf _) ⟨rfl,htr⟩ (fun _=>?_) (Fv (.mk f w))
   have:=(Tc ⟨_,rfl⟩).step (r:= .closer) (r':= .closer) h.sy.DF.1 (u:=MemOp.ofEvents (ic+1) gc.frame.fn gc.frame.place es) (fun op aB=>Go.ConcR.g_of_ofEvents op aB) (fun e=>e) (fun e=>(by cases e))
   rwa[show D.set ic ar.closer=D from by obtain⟨hl,e⟩:=List.getElem?_eq_some_iff.1 h.sy.DF.1;rw[←e];simp] at this
end
section
variable {ι:Type} {E:dS ι} {L:Nat→Option Obj} {K:Nat→St} {gs:Array Goroutine} {w w':World} {t u:Trace} {D:List (ar ι)} {pend d0:Nat} {cl:yX} {main:Goroutine} {sl:Option (Nat×Nat)}
 {i:Nat} {g g':Goroutine} {es:Array Event}
theorem HW(h:g.offers=none)(r:Nat)(send:Bool):offersAt g r send=[]:=by
 unfold offersAt
 split
 ·rename_i h';rw[h] at h';cases h'
 ·rfl
theorem qH(h:g.status= .running∨g.status= .finished)(r:Nat)(send:Bool):offersAt g r send=[]:=
 offersAt_of_not_blocked (by rcases h with h|h<;>rw[h]<;>simp) r send
theorem Inv.offers(h:Inv E L K gs w t D pend cl main d0){x:Goroutine}(hj:gs[j+1]?=some x):
 (∃o p8 v zs,D[j]?=some (.gA o)∧x=parked p8 #[scase E.Ch v zs] .send)∨∀r send,offersAt x r send=[]:=by
 have cK:j <D.length:=by have:=lt_size hj;have:=h.base.size;omega
 have hD:D[j]?=some D[j]:=List.getElem?_eq_getElem cK
 obtain⟨y,hy,fg⟩:=h.base.ok j _ hD
 obtain rfl:y=x:=by rw[hj] at hy;exact(Option.some.inj hy).symm
 by_cases hb:∃o,D[j]= .gA o
 ·obtain⟨o,e⟩:=hb
  rw[e] at fg
  obtain⟨_,uD,p8,v,zs,X,Y,rfl,_⟩:=fg
  exact .inl ⟨o,p8,v,zs,by rw[hD,e],rfl⟩
 ·right
  by_cases hc:D[j]= .closer
  ·have iT:=h.sy.DF
   match cl,iT with
   |none,iT=>
    have:=iT D[j] (List.mem_of_getElem? hD)
    rw[hc] at this
    exact this.elim
   |some (ic,c,n),⟨_,h2,_,⟨gc,Eb,py⟩,_⟩=>
    have e:=h2 j (by rw[hD,hc])
    subst e
    obtain rfl:gc=y:=by rw[hj] at Eb;exact(Option.some.inj Eb).symm
    intro r send
    by_cases aeX:c= .blk
    ·subst aeX
     obtain⟨_,uD,anQ,e⟩:=py
     exact HW (by rw[e];exact anQ.2.1) r send
    ·exact qH (.inl (CK.tS py aeX)) r send
  ·exact qH (fg.running (fun o e=>hb ⟨o,e⟩) hc)
theorem Inv.Xs(h:Inv E L K gs w t D pend cl main d0)(hm:main.status= .running){o:ι}(hi:D[i]?=some (.work o .leaf)) (hg:gs[i+1]?=some g):
 qn E L K D pend cl main d0 (crowd gs w sl) sl t (i+1):=by
 obtain⟨fp,dg,fg⟩:=h.base.ok i _ hi
 obtain rfl:fp=g:=by rw[hg] at dg;exact(Option.some.inj dg).symm
 obtain⟨hd,hs,p8,v,zs,X,Y,hXY,od,bS,xu⟩:=fg
 obtain⟨sn,rc,tm,hc⟩:=h.sy.chan
 have Hw:partners (gs.setIfInBounds (i+1) ph) E.Ch false=[]:=partners_nil fun j x hx=>by
  rcases getElem?_stand gs _ _ _ hx with ⟨_,rfl⟩| ⟨_,lH⟩
  ·exact offersAt_ph _ _
  ·cases j with
   |zero=>
    have:x=main:=by rw[h.main] at lH;exact(Option.some.inj lH).symm
    subst this
    exact qH (.inl hm) _ _
   |succ j=>
    rcases h.offers lH with ⟨o',g',v',zs',_,rfl⟩|hn
    ·exact offersAt_parked_send' _ _ _ _ _ _
    ·exact hn _ _
 have bV:=crowd_waits (sl:=sl) hg (by simpa using bS w (h.base.fit.jI _)) (fun cc uj=>by
  simp only[List.mem_toArray,List.mem_singleton] at uj
  subst uj
  exact ways_send_none hc (Nat.le_refl 0) Hw)
 have e0:MemOp.ofEvents (i+1) fp.frame.fn fp.frame.place #[]= #[]:=rfl
 rw[e0] at bV
 have ew:gs.map (woken E.P fp (parked p8 #[scase E.Ch v zs] .send) w)=gs:=by
  have:woken E.P fp (parked p8 #[scase E.Ch v zs] .send) w=id:=by funext x;simp[Go.Conc.woken,parked]
  rw[this,Array.map_id]
 refine h.go' (.inl hm) (r':= .gA o) (s':=K (i+1)) (w':=w) (g':=parked p8 #[scase E.Ch v zs] .send) (u:= #[]) hi (by simp) (by simp) hg (by simp) (by rw[ew];exact bV) ⟨rfl,rfl⟩ (h.sy.kW _) (h.sy.kC _) rfl ?_ ?_ (by simp) (by simp)
  (fun _=>rfl) (fun e=>e) (fun _ e=>e) (fun e=>(by cases e)) (Nat.le_refl _) rfl (fR (by simp[ar.mu])) (fun cl' hw _=>h.qh (r':= .gA o) hi rfl rfl rfl rfl rfl cl' hw) fun _=>hm
 ·rw[lQ,Array.append_empty];exact h.base.fit
 ·rw[Array.append_empty];exact⟨hd,p8,p8,v,zs,X,Y,rfl,hXY,od,rfl,xu⟩
theorem Inv.norm(h:Inv E L K gs w t D pend cl main d0)(hi:D[i]?=some (.back .leaf)):
 ∃n,Inv E L (fL K (i+1) ⟨fun _=>none,[]⟩) gs w t (D.set i (.st .r0 n)) pend cl main d0∧ko (D.set i (.st .r0 n))=ko D∧One tU (D.set i (.st .r0 n)) D:=by
 obtain⟨g,hg,hd,n,hp⟩:=h.base.ok i _ hi
 have cK:=(List.getElem?_eq_some_iff.1 hi).1
 have oI:∀ {k x},(D.set i (ar.st .r0 n))[k]?=some x→(k=i∧x= .st .r0 n)∨(k≠i∧D[k]?=some x):=fun {k x} hk=>by
  by_cases e:k=i
  ·subst e
   exact .inl ⟨rfl,by simpa [List.getElem?_set,cK] using hk.symm⟩
  ·rw[List.getElem?_set_ne (Ne.symm e)] at hk;exact .inr ⟨e,hk⟩
 have hle:∀j,(fL K (i+1) ⟨fun _=>none,[]⟩ j).le (K j):=fun j=>by
  by_cases e:j=i+1
  ·subst e;rw[aF];exact⟨(K (i+1)).rw,by simp,fun b o hb=>(by cases hb)⟩
  ·rw[aH _ _ e];exact St.le_refl _
 have iG:cl≠none:=fun e=>by
  have:=h.sy.DF
  subst e
  exact this _ (List.mem_of_getElem? hi)
 refine⟨n,⟨⟨h.base.fit.le hle,by simp[h.base.size],fun k r hk=>?_,fun k hk b hb=>h.base.far k hk b ((hle k).knows hb),h.base.ops,h.base.same⟩,
  ⟨fun j hj=>h.sy.kW j ((hle j).knows hj),fun j hj=>h.sy.kC j ((hle j).knows hj),h.sy.lW,h.sy.lC,h.sy.ne,h.sy.norel,fun j hj=>h.sy.plain j ?_,h.sy.said,?_,?_,h.sy.chan,h.sy.bal,?_⟩,h.main,h.deaf⟩,Ff (r:= .back .leaf) (r':= .st .r0 n) rfl hi,One.set hi (fR (by simp[ar.mu,WK.Kp]))⟩
 ·rcases oI hk with ⟨rfl,rfl⟩| ⟨eg,jD⟩
  ·exact⟨g,hg,by rw[aF],hd,hp,fun e=>(by cases e)⟩
  ·rw[aH _ _ (by omega)];exact h.base.ok k r jD
 ·rcases hj with hj| ⟨k,r,rfl,hk,hl⟩
  ·exact .inl hj
  ·rcases oI hk with ⟨rfl,rfl⟩| ⟨_,jD⟩
   ·exact .inr ⟨_,_,rfl,hi,rfl⟩
   ·exact .inr ⟨k,r,rfl,jD,hl⟩
 ·obtain⟨st,sm,ha,mP⟩:=h.sy.cells
  exact⟨st,sm,ha,J5 hi rfl rfl rfl rfl mP⟩
 ·have:=jB ar.cnt (y:=ar.st .r0 n) hi
  have e:(ar.st (ι:=ι) .r0 n).cnt=(ar.back (ι:=ι) .leaf).cnt:=rfl
  have:=h.sy.Bw
  omega
 ·have iT:=h.sy.DF
  match cl,iT,iG with
  |some (ic,c,m),⟨h1,h2,h3,⟨gc,Eb,py⟩,h5⟩,_=>
   have eg:ic≠i:=fun e=>by subst e;rw[hi] at h1;cases h1
   refine⟨by rw[List.getElem?_set_ne (Ne.symm eg)];exact h1,fun k hk=>?_,h3,⟨gc,Eb,by rw[aH _ _ (by omega)];exact py⟩,fun hr=>?_⟩
   ·rcases oI hk with ⟨_,e⟩| ⟨_,jD⟩
    ·cases e
    ·exact h2 k jD
   ·have:=(h5 hr).step (u:= #[]) (r':= .st .r0 n) hi (by simp) (fun e=>(by cases e)) (fun e=>(by cases e))
    rwa[Array.append_empty] at this
end
section
variable {ι:Type} {E:dS ι} {L:Nat→Option Obj} {K:Nat→St} {gs kR:Array Goroutine} {w w':World} {t u:Trace} {D:List (ar ι)} {pend d0:Nat} {cl:yX} {main main':Goroutine} {sl:Option (Nat×Nat)}
 {i:Nat} {g g':Goroutine} {es:Array Event}
theorem fW(t:Trace)(g:Nat)(u:Trace)(hu:∀op∈u,∀m,op.act≠ .mark m):Deaf (t++u) g=Deaf t g:=by
 obtain⟨l⟩:=u
 rw[Deaf_append]
 induction l generalizing t with
 |nil=>rfl
 |cons y l ih=>
  have hy:=hu y (by simp)
  have e1:deafStep g (Deaf t g) y=Deaf t g:=by
   unfold deafStep
   split
   ·rename_i e;exact absurd e (hy _)
   ·rename_i e;exact absurd e (hy _)
   ·rfl
  rw[List.foldl_cons,e1]
  exact ih t (fun op aB=>hu op (by simp at aB ⊢;exact .inr aB))
theorem Bq{o:ι}{r':ar ι}(ho:r'.U9=none):∀ {D:List (ar ι)} {i:Nat} {r:ar ι},D[i]?=some r→r.U9=some o→∃a b,ko D=a++o::b∧ko (D.set i r')=a++b
 | [],i,r,h,_=>by simp at h
 |x::D,0,r,h,hr=>by
  simp only[List.getElem?_cons_zero,Option.some.injEq] at h;subst h
  exact⟨[],ko D,by simp[ko,hr],by simp[ko,ho]⟩
 |x::D,i+1,r,h,hr=>by
  obtain⟨a,b,h1,h2⟩:=Bq ho (D:=D) (i:=i) (by simpa using h) hr
  cases hx:x.U9 with
  |none=>exact⟨a,b,by simp only[ko,List.filterMap_cons,hx] at h1 ⊢;exact h1,by simp only[ko,List.set_cons_succ,List.filterMap_cons,hx] at h2 ⊢;exact h2⟩
  |some y=>exact⟨y::a,b,by simp only[ko,List.filterMap_cons,hx] at h1 ⊢;rw[h1];rfl,by simp only[ko,List.set_cons_succ,List.filterMap_cons,hx] at h2 ⊢;rw[h2];rfl⟩
theorem Inv.meet(h:Inv E L K gs w t D pend cl main 0)(iG:cl≠none){r:ar ι}{o:ι}{X Y:List (Nat×Obj)}{tr:Tree}{ig:St}{gw:Goroutine}(hi:D[i]?=some r) (hr:r= .work o .leaf∨r= .gA o)
 (hd:Deaf t (i+1)=0) (hXY:(K (i+1)).rw.Perm (X++Y)) (hle:ig.le ⟨(K (i+1)).ro,Y⟩) (hb:oB E.P false E.Ho tr gw ig)
 (uA:kR.size=gs.size) (h0:kR[0]?=some main') (hw1:kR[i+1]?=some gw) (hgs:∀k,k≠0→k≠i+1→kR[k]?=gs[k]?)
 {sn rc:Nat} {tm:Bool} (hc:w.heap[E.Ch]?=some (.chan 0 #[] false sn rc tm)) (sC:w'.heap[E.Ch]?=some (.chan 0 #[] false (sn+1) (rc+1) tm)) (ry:w'.heap.size=w.heap.size) (hwb:∀b,b≠E.Ch→w'.heap[b]?=w.heap[b]?) (O9:Uk w w')
 {a0 a1 a2 a3:MemOp} (e0:a0.g=i+1∧a0.act= .send E.Ch sn) (e1:a1.g=0∧a1.act= .recv E.Ch rc 0) (e2:a2.g=i+1∧a2.act= .sendDone E.Ch sn) (e3:a3.g=0∧a3.act= .recvDone E.Ch rc):
 Inv E L (fL (fL K (i+1) ig) 0 ⟨(K 0).ro,X++(K 0).rw⟩) kR w' (t++ #[a0,a1,a2,a3]) (D.set i (.back tr)) pend cl main' 0:=by
 have cK:=(List.getElem?_eq_some_iff.1 hi).1
 have atE:=h.sy.bal _ _ _ hc
 subst atE
 have oI:∀ {k x},(D.set i (ar.back tr))[k]?=some x→(k=i∧x= .back tr)∨(k≠i∧D[k]?=some x):=fun {k x} hk=>by
  by_cases e:k=i
  ·subst e
   exact .inl ⟨rfl,by simpa [List.getElem?_set,cK] using hk.symm⟩
  ·rw[List.getElem?_set_ne (Ne.symm e)] at hk;exact .inr ⟨e,hk⟩
 have hu:∀op∈ #[a0,a1,a2,a3],op.g=i+1∨op.g=0:=by intro op aB;simp at aB;rcases aB with rfl|rfl|rfl|rfl<;>simp[e0.1,e1.1,e2.1,e3.1]
 have hq:∀op∈ #[a0,a1,a2,a3],op.act.touch?=none:=by intro op aB;simp at aB;rcases aB with rfl|rfl|rfl|rfl<;>simp[e0.2,e1.2,e2.2,e3.2,MemAct.touch?]
 have Pq:∀op∈ #[a0,a1,a2,a3],∀m,op.act≠ .mark m:=by intro op aB;simp at aB;rcases aB with rfl|rfl|rfl|rfl<;>simp[e0.2,e1.2,e2.2,e3.2]
 have yy:∀k,Deaf (t++ #[a0,a1,a2,a3]) k=Deaf t k:=fun k=>fW t k _ Pq
 have p0:(t++ #[a0,a1,a2,a3])[t.size]?=some a0:=by simp
 have p3:(t++ #[a0,a1,a2,a3])[t.size+3]?=some a3:=by simp
 have hear:∀k (hk:k≤3) (op:MemOp),(t++ #[a0,a1,a2,a3])[t.size+k]?=some op→op.g=i+1∨op.g=0→Deaf t (i+1)=0→Deaf t 0=0→(t++ #[a0,a1,a2,a3]).heard (t.size+k):=by
  intro k hk op ho hg h1 h2
  refine⟨op.g,by simp only[Trace.g?,ho,Option.map_some],?_⟩
  have key:∀k,k≤3→∀q,Deaf t q=0→(t++ #[a0,a1,a2,a3]).deaf q (t.size+k)=0:=by
   intro k
   induction k with
   |zero=>intro _ q hq;rw[Nat.add_zero,deaf_old (Nat.le_refl _)];exact hq
   |succ k ih=>
    intro hk q Hu
    have cK:t.size+k <(t++ #[a0,a1,a2,a3]).size:=by simp;omega
    have hm:(t++ #[a0,a1,a2,a3])[t.size+k]?=some (t++ #[a0,a1,a2,a3])[t.size+k]:=Array.getElem?_eq_getElem cK
    have yU:(t++ #[a0,a1,a2,a3])[t.size+k]∈ #[a0,a1,a2,a3]:=by
     rcases getElem?_append_cases hm with ⟨h',_⟩| ⟨_,h'⟩
     ·omega
     ·exact h'
    rw[show t.size+(k+1)=t.size+k+1 by omega,deaf_succ hm,ih (by omega) q Hu]
    have hn:=Pq _ yU
    unfold deafStep
    split
    ·rename_i e;exact absurd e (hn _)
    ·rename_i e;exact absurd e (hn _)
    ·rfl
  rcases hg with hg|hg<;>rw[hg]
  ·exact key k hk _ h1
  ·exact key k hk _ h2
 have Y1:HappensBefore (t++ #[a0,a1,a2,a3]) t.size (t.size+3):=
  .single (.inr ⟨.handOver (c:=E.Ch) (k:=sn) (by rw[act?_of p0,e0.2]) (by rw[act?_of p3,e3.2]),hear 0 (by omega) a0 p0 (.inl e0.1) hd h.deaf,hear 3 (by omega) a3 p3 (.inr e3.1) hd h.deaf⟩)
 have aSL:Fit L K w' (t++ #[a0,a1,a2,a3]):=h.base.fit.quiet E.Ch h.sy.kC h.sy.lC (Nat.le_of_eq ry.symm) (fun b hb _=>hwb b hb) hq
 have ky:∀b o,(b,o)∈X→(K (i+1)).iQ b:=fun b o hm=>⟨o,hXY.mem_iff.2 (by simp[hm])⟩
 have aSK:=aSL.hand (i:=0) (j:=i+1) (by omega) X Y hXY fun b o hm p x hx hxb=>by
  rcases bF hx with ⟨hp,lH⟩| ⟨_,op,QO,_,xp⟩
  ·have k1:=h.base.fit.perm (i+1) b (ky b o hm) p x lH hxb
   exact⟨t.size+3,a3,p3,e3.1,.inr ((k1.hb_new (Nat.le_refl _) p0 e0.1).trans Y1)⟩
  ·rw[hq op QO] at xp;cases xp
 have aSJ:Fit L (fL (fL K (i+1) ig) 0 ⟨(K 0).ro,X++(K 0).rw⟩) w' (t++ #[a0,a1,a2,a3]):=aSK.le fun j=>by
  by_cases e:j=0
  ·subst e;rw[aF,aF];exact St.le_refl _
  ·rw[aH _ _ e,aH _ _ e]
   by_cases e':j=i+1
   ·subst e';rw[aF,aF];exact hle
   ·rw[aH _ _ e',aH _ _ e'];exact St.le_refl _
 have HB:∀b,(∀j,¬(K j).knows b)→∀j,¬(fL (fL K (i+1) ig) 0 ⟨(K 0).ro,X++(K 0).rw⟩ j).knows b:=fun b hb j hk=>by
  by_cases e:j=0
  ·subst e;rw[aF] at hk
   rcases hk with hk| ⟨o,ho⟩
   ·exact hb 0 (.inl hk)
   ·rcases List.mem_append.1 ho with h'|h'
    ·exact hb (i+1) (.inr (ky b o h'))
    ·exact hb 0 (.inr ⟨o,h'⟩)
  ·rw[aH _ _ e] at hk
   by_cases e':j=i+1
   ·subst e';rw[aF] at hk
    rcases hle.knows hk with hk| ⟨o,ho⟩
    ·exact hb (i+1) (.inl hk)
    ·exact hb (i+1) (.inr ⟨o,hXY.mem_iff.2 (by simp[ho])⟩)
   ·rw[aH _ _ e'] at hk;exact hb j hk
 have Du:r.cnt=1∧r.c4=0∧r.c3=0∧r.c2=0:=by rcases hr with rfl|rfl<;>exact⟨rfl,rfl,rfl,rfl⟩
 refine⟨⟨aSJ,by rw[uA];simp[h.base.size],fun k x hk=>?_,fun k hk b hb=>?_,fun op aB=>?_,⟨O9.1.trans h.base.same.1,O9.2.trans h.base.same.2⟩⟩,
  ⟨HB _ h.sy.kW,HB _ h.sy.kC,h.sy.lW,h.sy.lC,h.sy.ne,fun a=>(h.sy.norel a).app fun op aB=>Pq op aB _,fun j hj p x hx hxb hk=>?_,?_,?_,?_,⟨_,_,_,sC⟩,fun a b c hx=>?_,?_⟩,h0,by rw[yy];exact h.deaf⟩
 ·rcases oI hk with ⟨rfl,rfl⟩| ⟨eg,jD⟩
  ·exact⟨gw,hw1,by rw[yy];exact hd,by rw[aH _ _ (by omega),aF];exact hb⟩
  ·obtain⟨y,hy,fg⟩:=h.base.ok k x jD
   refine⟨y,by rw[hgs (k+1) (by omega) (by omega)];exact hy,?_⟩
   rw[aH _ _ (by omega),aH _ _ (by omega)]
   exact fg.other fun op aB=>by rcases hu op aB with e|e<;>rw[e]<;>omega
 ·rw[uA] at hk
  have:=h.base.size
  rw[aH _ _ (by omega),aH _ _ (by omega)] at hb
  exact h.base.far k hk b hb
 ·rw[uA]
  rcases Array.mem_append.1 aB with h'|h'
  ·exact h.base.ops op h'
  ·rcases hu op h' with e|e<;>rw[e,h.base.size]<;>omega
 ·rcases bF hx with ⟨_,lH⟩| ⟨_,op,QO,_,xp⟩
  ·refine(h.sy.plain j ?_ p x lH hxb hk).app _
   rcases hj with hj| ⟨k,y,rfl,jD,hl⟩
   ·exact .inl hj
   ·rcases oI jD with ⟨rfl,rfl⟩| ⟨_,as2⟩
    ·exact .inr ⟨_,r,rfl,hi,by rcases hr with rfl|rfl<;>rfl⟩
    ·exact .inr ⟨k,y,rfl,as2,hl⟩
  ·rw[hq op QO] at xp;cases xp
 ·have hs:=h.sy.said
  match cl,hs,iG with
  |some (ic,c,n),hs,_=>
   intro he p x hx hxb hk
   rcases bF hx with ⟨_,lH⟩| ⟨_,op,QO,_,xp⟩
   ·exact(hs he p x lH hxb hk).app _
   ·rw[hq op QO] at xp;cases xp
 ·obtain⟨st,sm,ha,mP⟩:=h.sy.cells
  refine⟨st,sm,by unfold WgAt;rw[hwb _ h.sy.ne];exact ha,J5 hi ?_ ?_ ?_ ?_ mP⟩
  ·rw[Du.1];rfl
  ·rw[Du.2.1];rfl
  ·rw[Du.2.2.1];rfl
  ·rw[Du.2.2.2];rfl
 ·have:=jB ar.cnt (y:=ar.back tr) hi
  have e:(ar.back (ι:=ι) tr).cnt=1:=rfl
  have:=h.sy.Bw
  omega
 ·rw[sC] at hx
  simp only[Option.some.injEq,Obj.chan.injEq] at hx
  omega
 ·have iT:=h.sy.DF
  obtain⟨st,sm,ha,mP⟩:=h.sy.cells
  have aAl:1≤fx ar.cnt D:=by have:=tD ar.cnt hi;rw[Du.1] at this;exact this
  match cl,iT,iG,mP with
  |some (ic,c,m),⟨h1,h2,h3,⟨gc,Eb,py⟩,h5⟩,_,mP=>
   have eg:ic≠i:=fun e=>by subst e;rw[hi] at h1;rcases hr with rfl|rfl<;>cases h1
   refine⟨by rw[List.getElem?_set_ne (Ne.symm eg)];exact h1,fun k hk=>?_,by rw[yy];exact h3,⟨gc,by rw[hgs _ (by omega) (by omega)];exact Eb,by rw[aH _ _ (by omega),aH _ _ (by omega)];exact py⟩,fun⟨tr',e⟩=>?_⟩
   ·rcases oI hk with ⟨_,e⟩| ⟨_,jD⟩
    ·cases e
    ·exact h2 k jD
   ·subst e
    have:=(mP.run rfl trivial).1
    omega
end
def Ends(P:Program)(Q:Machine→Outcome→World→Trace→Prop)(m:Machine)(t:Trace):Prop:=
 ∃n last o w' t',runNT P (n+1) m t=(.ended o w',t')∧runN P n m= .next last∧step P last= .ended o w'∧Q last o w' t'
theorem Ends.next{P:Program}{m m':Machine}{t:Trace}{ops:Array MemOp}(hs:stepT P m=(.next m',ops))(h:Ends P Q m' (t++ops)):Ends P Q m t:=by
 obtain⟨n,last,o,w,t',h1,h2,h3,h4⟩:=h
 exact⟨n+1,last,o,w,t',by rw[runNT_succ_next hs];exact h1,by rw[runN_succ_next hs];exact h2,h3,h4⟩
section
variable {L:Nat→Option Obj} {K:Nat→St} {w:World} {t:Trace}
theorem aU.at(h:aU s w)(d:Nat):aU s (w.at d):=⟨h.ro,h.rw,h.nodup,h.apart⟩
theorem Fit.at(h:Fit L K w t)(d:Nat):Fit L K (w.at d) t:=⟨h.De,h.k9,fun i=>(h.jI i).at d,h.sep,h.perm,h.qF,h.old,h.clean,h.sync⟩
end
section
variable {ι:Type} {E:dS ι} {L:Nat→Option Obj} {K:Nat→St} {gs:Array Goroutine} {w:World} {t:Trace} {D:List (ar ι)} {pend d0:Nat} {cl:yX} {main:Goroutine}
theorem Inv.at(h:Inv E L K gs w t D pend cl main d0)(d:Nat):Inv E L K gs (w.at d) t D pend cl main d0:=
 ⟨⟨h.base.fit.at d,h.base.size,h.base.ok,h.base.far,h.base.ops,h.base.same⟩,
  ⟨h.sy.kW,h.sy.kC,h.sy.lW,h.sy.lC,h.sy.ne,h.sy.norel,h.sy.plain,h.sy.said,h.sy.cells,h.sy.Bw,h.sy.chan,h.sy.bal,h.sy.DF⟩,h.main,h.deaf⟩
end
structure Lv(P:Program)(G:Trace→Nat→Prop)(L:Nat→Option Obj)(K:Nat→St)(gs:Array Goroutine)(w:World)(t:Trace)(q:List Nat):Prop where
 fit:Fit L K w t
 size:gs.size=q.length+1
 ok:∀i n,q[i]?=some n→∃g d,gs[i+1]?=some g∧QuitsD P n d g∧Deaf t (i+1)=d∧G t (i+1)
 none:∀i b,i≠0→¬(K i).knows b
 ops:∀op∈t,op.g <gs.size
structure JX(G:Trace→Nat→Prop):Prop where
 other:∀t u i,G t i→(∀op∈u,op.g≠i)→G (t++u) i
 quiet:∀t u i,G t i→(∀op∈u,op.act.touch?=none)→G (t++u) i
theorem CJ:JX eH:=⟨fun _ _ _ h hu=>h.other hu,fun _ _ _ h hu=>h.quiet hu⟩
def iY(pc:Nat)(t:Trace)(i:Nat):Prop:=pc <t.size∧(eH t i∨∀p,t.g? p=some i→t.counts p→HappensBefore t p pc)
theorem iY.grow{pc:Nat}{t u:Trace}{i:Nat}(h:iY pc t i)(hu:∀p op,t.size≤p→(t++u)[p]?=some op→op.g=i→¬(t++u).counts p) (hk:eH t i→eH (t++u) i):iY pc (t++u) i:=by
 refine⟨by rw[Array.size_append];have:=h.1;omega,h.2.imp hk fun h' p hp hc=>?_⟩
 obtain⟨op,ho,hg⟩:=Option.map_eq_some_iff.1 hp
 rcases Nat.lt_or_ge p t.size with cK|Pv
 ·exact hb_app u (h' p (by rw[←g?_old (u:=u) cK];exact hp) ((counts_old cK).1 hc))
 ·exact absurd hc (hu p op Pv ho hg)
theorem PK(pc:Nat):JX (iY pc):=
 ⟨fun t u i h hu=>h.grow (fun p op hp ho hg=>by
  rcases getElem?_append_cases ho with ⟨h',_⟩| ⟨_,hm⟩
  ·omega
  ·exact absurd hg (hu op hm)) fun h'=>h'.other hu,
  fun t u i h hu=>h.grow (fun p op hp ho hg hc=>by
   obtain⟨x,hx,_⟩:=hc
   obtain⟨o',D9,lH⟩:=touch_of hx
   rw[ho] at D9;cases D9
   rcases getElem?_append_cases ho with ⟨h',_⟩| ⟨_,hm⟩
   ·omega
   ·rw[hu op hm] at lH;cases lH) fun h'=>h'.quiet hu⟩
section
variable {P:Program} {G:Trace→Nat→Prop} {L:Nat→Option Obj} {K:Nat→St} {gs:Array Goroutine} {w:World} {t:Trace} {q:List Nat} {sl:Option (Nat×Nat)}
theorem Lv.at(h:Lv P G L K gs w t q)(d:Nat):Lv P G L K gs (w.at d) t q:=⟨h.fit.at d,h.size,h.ok,h.none,h.ops⟩
theorem Lv.le(h:Lv P G L K gs w t q)(hl:s.le (K 0)):Lv P G L (fL K 0 s) gs w t q:=
 ⟨h.fit.le fun j=>by
  by_cases e:j=0
  ·subst e;rw[aF];exact hl
  ·rw[aH _ _ e];exact St.le_refl _,h.size,h.ok,fun i b hi hk=>by rw[aH _ _ hi] at hk;exact h.none i b hi hk,h.ops⟩
theorem Lv.leave(hG:JX G)(h:Lv P G L K gs w t q){i:Nat}{m:Goroutine}(hm:gs[0]?=some m) (yS:m.status= .running) (hg:gs[i+1]?=some g) (hs:g.status= .running):
 ∃kR u q',runT P (crowd gs w sl) (i+1)=(.next (crowd kR w sl),u)∧Lv P G L K kR w (t++u) q'∧kR[0]?=some m∧Deaf (t++u) 0=Deaf t 0∧q'.sum <q.sum∧∀op∈u,∀a,op.act≠ .mark (.release a):=by
 have cK:i <q.length:=by have:=lt_size hg;have:=h.size;omega
 have hq:=List.getElem?_eq_getElem cK
 obtain⟨fp,d,dg,hqd,hd,hk⟩:=h.ok i _ hq
 obtain rfl:fp=g:=by rw[hg] at dg;exact(Option.some.inj dg).symm
 cases e:q[i] with
 |zero=>rw[e] at hqd;have:=hqd.1;rw[hs] at this;cases this
 |succ n=>
  rw[e] at hqd
  rcases hqd with ⟨h1,_⟩| ⟨_,g',es,QN,bS,Hu⟩
  ·rw[hs] at h1;cases h1
  ·have hu:=Ja (i:=i+1) (fn:=fp.frame.fn) (pos:=fp.frame.place) QN
   have hgi:∀op∈MemOp.ofEvents (i+1) fp.frame.fn fp.frame.place es,op.g=i+1:=fun op aB=>Go.ConcR.g_of_ofEvents op aB
   have Dl:∀x:Goroutine,(x.status= .running∨x.status= .finished)→woken P fp g' w x=x:=fun x hx=>by
    unfold Go.Conc.woken
    split
    ·exact again_running _ hx
    ·rfl
   refine⟨_,_,q.set i n,runT_crowd_go (P:=P) (sl:=sl) (i:=i+1) hg (by simpa using bS w),⟨?_,by simp[h.size],fun k n' jD=>?_,h.none,fun op aB=>?_⟩,?_,?_,?_,fun op aB a=>OM QN a op aB⟩
   ·exact h.fit.quiet w.heap.size (fun j hj=>absurd (h.fit.FG hj) (Nat.lt_irrefl _)) (by
     cases hL:L w.heap.size with
     |none=>rfl
     |some o=>exact absurd (lt_size (h.fit.De _ o hL)) (Nat.lt_irrefl _)) (Nat.le_refl _) (fun _ _ _=>rfl) hu
   ·by_cases hki:k=i
    ·subst hki
     have:n=n':=by simpa [List.getElem?_set,cK] using jD
     subst this
     exact⟨g',_,by simp[h.size,cK],Hu,by rw[Deaf_own,hd],hG.quiet _ _ _ hk hu⟩
    ·rw[List.getElem?_set_ne (Ne.symm hki)] at jD
     obtain⟨x,dx,hx,hqx,hdx,AS⟩:=h.ok k n' jD
     have eg:∀op∈MemOp.ofEvents (i+1) fp.frame.fn fp.frame.place es,op.g≠k+1:=fun op aB=>by rw[hgi op aB];omega
     exact⟨x,dx,by rw[fY (by omega) hx,Dl x hqx.status],hqx,by rw[gP _ _ eg];exact hdx,hG.other _ _ _ AS eg⟩
   ·rw[Array.size_setIfInBounds,Array.size_map]
    rcases Array.mem_append.1 aB with h'|h'
    ·exact h.ops op h'
    ·rw[hgi op h',h.size];omega
   ·rw[fY (by omega) hm,Dl m (.inl yS)]
   ·exact gP _ _ fun op aB=>by rw[hgi op aB];omega
   ·have key:∀(l:List Nat) (i:Nat) (x:Nat),l[i]?=some x→∀y,y <x→(l.set i y).sum <l.sum:=by
     intro l
     induction l with
     |nil=>intro i x h;simp at h
     |cons a l ih=>
      intro i x hx y hy
      cases i with
      |zero=>simp only[List.getElem?_cons_zero,Option.some.injEq] at hx;subst hx;simp only[List.set_cons_zero,List.sum_cons];omega
      |succ i=>have:=ih i x (by simpa using hx) y hy;simp only[List.set_cons_succ,List.sum_cons];omega
    exact key q i _ (by rw[hq,e]) n (Nat.lt_succ_self n)
theorem Lv.own(hG:JX G)(h:Lv P G L K gs w t q){g':Goroutine}{w':World}{es:Array Event}(hm:gs[0]?=some g) (bS:stepG P true g w= .go g' w' es) (ht:Trans (K 0) w s' w' es):
 ∃kR u,runT P (crowd gs w sl) 0=(.next (crowd kR w' sl),u)∧Lv P G L (fL K 0 s') kR w' (t++u) q∧kR[0]?=some g'∧Deaf (t++u) 0=Deaf t 0∧∀op∈u,∀a,op.act≠ .mark (.release a):=by
 have hgi:∀op∈MemOp.ofEvents 0 g.frame.fn g.frame.place es,op.g=0:=fun op aB=>Go.ConcR.g_of_ofEvents op aB
 refine⟨_,_,runT_crowd_go (P:=P) (sl:=sl) (i:=0) hm (by simpa using bS),⟨h.fit.own ht _ _,by simp[h.size],fun k n hk=>?_,fun i b hi hk=>?_,fun op aB=>?_⟩,?_,?_,fun op aB a e=>?_⟩
 ·obtain⟨x,dx,hx,hqx,hdx,AS⟩:=h.ok k n hk
  have eg:∀op∈MemOp.ofEvents 0 g.frame.fn g.frame.place es,op.g≠k+1:=fun op aB=>by rw[hgi op aB];omega
  exact⟨x,dx,by rw[fY (by omega) hx,woken_quitsD hqx],hqx,by rw[gP _ _ eg];exact hdx,hG.other _ _ _ AS eg⟩
 ·rw[aH _ _ hi] at hk;exact h.none i b hi hk
 ·rw[Array.size_setIfInBounds,Array.size_map]
  rcases Array.mem_append.1 aB with h'|h'
  ·exact h.ops op h'
  ·rw[hgi op h',h.size];omega
 ·simp[h.size]
 ·rw[Deaf_own,ht.deaf]
 ·rw[ofEvents_eq] at aB
  obtain⟨e',he,rfl⟩:=Array.mem_map.1 aB
  have hl:=Go.ConcR.loc_of_ofEvent e
  have:=ht.uM e' he
  unfold Hn at this
  rw[hl] at this
  simp[Bs] at this
structure WZ(I:(Nat→St)→World→Trace→Prop):Prop where
 grow:∀K w t u,I K w t→(∀op∈u,∀a,op.act≠ .mark (.release a))→I K w (t++u)
 drawn:∀K w t d,I K w t→I K (w.at d) t
 le:∀K w t s,I K w t→s.le (K 0)→I (fL K 0 s) w t
 own:∀K w t s' w' es u,I K w t→Trans (K 0) w s' w' es→(∀op∈u,∀a,op.act≠ .mark (.release a))→I (fL K 0 s') w' (t++u)
def Calm(os:Os)(out:Array (Nat×ByteArray)):(Nat→St)→World→Trace→Prop:=fun _ w t=>(∀a,NoRelease a t)∧w.os=os∧w.output=out
def TL(P:Program)(G:Trace→Nat→Prop)(L:Nat→Option Obj)(I:(Nat→St)→World→Trace→Prop)(Q:Machine→Outcome→World→Trace→Prop)(g:Goroutine)(s:St):Prop:=
 ∀K gs w t q sl,Lv P G L K gs w t q→gs[0]?=some g→s.le (K 0)→Deaf t 0=0→I K w t→Ends P Q (crowd gs w sl) t
theorem J6(hG:JX G)(hI:WZ I)(hs:g.status= .running)
 (h:∀K gs w t q sl m,Lv P G L K gs w t q→gs[0]?=some g→K 0=s→Deaf t 0=0→I K w t→stepT P m=runT P (crowd gs w sl) 0→(m.gs=gs∧m.rest.timers= #[])→Ends P Q m t):TL P G L I Q g s:=by
 intro K gs w t q sl hL h0 hle hd hi
 generalize hn:q.sum=n
 induction n using Nat.strongRecOn generalizing K gs w t q sl with
 |_ n ih=>
  have hL:=hL.le hle
  have hi:=hI.le _ _ _ _ hi hle
  obtain⟨i,fp,d,Qz,dg,FT,bS⟩:=crowd_pick (P:=P) (gs:=gs) (w:=w) (sl:=sl) (fun x hx=>by
   obtain⟨j,hj,rfl⟩:=Array.mem_iff_getElem.1 hx
   have hj':gs[j]?=some gs[j]:=Array.getElem?_eq_getElem hj
   intro k
   cases j with
   |zero=>rw[h0] at hj';rw[←Option.some.inj hj',hs];simp
   |succ j=>
    have cK:j <q.length:=by have:=hL.size;omega
    obtain⟨y,d,hy,hq,_⟩:=hL.ok j _ (List.getElem?_eq_getElem cK)
    rw[hj'] at hy
    rw[Option.some.inj hy]
    rcases hq.status with e|e<;>rw[e]<;>simp) ⟨0,g,h0,hs⟩
  cases i with
  |zero=>exact h _ gs (w.at d) t q Qz _ (hL.at d) h0 (aF _ _ _) hd (hI.drawn _ _ _ _ hi) bS ⟨rfl,rfl⟩
  |succ i=>
   obtain⟨kR,u,q',hr,hL',QO,Ec,cK,hrl⟩:=(hL.at d).leave (sl:=Qz) hG h0 hs dg FT
   refine Ends.next (bS.trans hr) (ih q'.sum (hn▸cK) _ kR _ _ q' Qz hL' QO ?_ (by rw[Ec];exact hd) (hI.grow _ _ _ _ (hI.drawn _ _ _ _ hi) hrl) rfl)
   rw[aF];exact St.le_refl _
theorem Iz(hG:JX G)(hI:WZ I)(Q:Machine→Outcome→World→Trace→Prop):Closed P true (TL P G L I Q) where
 step:=fun g s hs h=>J6 hG hI hs fun K gs w t q sl m hL h0 hK hd hi bS _=>by
  subst hK
  obtain⟨g',w',es,s',hgo,_,ht,hT⟩:=h w (hL.fit.jI 0)
  obtain⟨kR,u,hr,hL',QO,Ec,hrl⟩:=hL.own (sl:=sl) hG h0 hgo ht
  exact Ends.next (bS.trans hr) (hT _ kR w' _ q sl hL' QO (by rw[aF];exact St.le_refl _) (by rw[Ec];exact hd) (hI.own _ _ _ _ _ _ _ hi ht hrl))
 mono:=fun g s s' hl h K gs w t q sl hL h0 hle hd hi=>h K gs w t q sl hL h0 (hl.trans hle) hd hi
theorem TL.mono(hl:s.le s')(h:TL P G L I Q g s):TL P G L I Q g s':=
 fun K gs w t q sl hL h0 hle hd hi=>h K gs w t q sl hL h0 (hl.trans hle) hd hi
end
end Go.L
