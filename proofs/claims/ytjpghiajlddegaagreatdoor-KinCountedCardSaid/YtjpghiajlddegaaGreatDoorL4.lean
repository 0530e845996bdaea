/- Part 4 of the proof: a program logic, contracts, a theorem on goroutines. -/
import Derived.Test.YtjpghiajlddegaaGreatDoorL3
import Derived.Conc.Holds
set_option maxRecDepth 100000
set_option linter.all false
namespace Go.L
open Go Go.Conc
open Go.ConcR (KK wgBlock WgAt stA smA rd wr)
variable {Q:Machine→Outcome→World→Trace→Prop} {I:(Nat→St)→World→Trace→Prop} {st sm:Int} {n mx b j n':Nat} {g:Goroutine} {s s':St}
section
variable {ι:Type} {E:dK ι} {L:Nat→Option Obj} {K:Nat→St} {gs:Array Goroutine} {w w':World} {t u:Trace} {D:List (ak ι)} {pend d0:Nat} {cl:yQ} {main:Goroutine} {sl:Option (Nat×Nat)}
 {i:Nat} {g g':Goroutine} {es:Array Event}
theorem lA(K:Nat→St)(i:Nat):fD K i (K i)=K:=by
 funext j
 by_cases e:j=i
 ·subst e;rw[aB]
 ·rw[aD _ _ e]
theorem Md.anw{a c:Nat}{cl cl':yQ}(h:Md mx n a b c (cl.map (·.2.1)) st sm)(hw:yE cl cl'):Md mx n a b c (cl'.map (·.2.1)) st sm:=by
 cases hw with
 |same=>exact h
 |up ic=>
  simp only[Option.map_some] at h ⊢
  cases h with
  |reg _ h2=>exact .reg trivial h2
  |l4 _=>exact .l4 trivial
  |l3 _=>exact .l3 trivial
  |l2 _=>exact .l2 trivial
  |sema _ h2=>exact absurd rfl h2
  |over h1=>exact h1.elim
theorem Inv.qd(h:Inv E L K gs w t D pend cl main d0){r r':ak ι}(hi:D[i]?=some r) (hw:w'.heap[E.Wg]?=w.heap[E.Wg]?) (h1:r'.cnt=r.cnt) (h4:r'.c4=r.c4) (h3:r'.c3=r.c3) (h2:r'.c2=r.c2):
 ∀cl',yE cl cl'→∃st sm,WgAt E.ty E.Wg w' st sm∧Md E.max (e8 ak.cnt (D.set i r')+pend) (e8 ak.c4 (D.set i r')) (e8 ak.c3 (D.set i r')) (e8 ak.c2 (D.set i r')) (cl'.map (·.2.1)) st sm:=by
 intro cl' Df
 obtain⟨st,sm,ha,hm⟩:=h.sy.cells
 have e1:=iZ ak.cnt (y:=r') hi
 have e4:=iZ ak.c4 (y:=r') hi
 have e3:=iZ ak.c3 (y:=r') hi
 have e2:=iZ ak.c2 (y:=r') hi
 rw[show e8 ak.cnt (D.set i r')=e8 ak.cnt D by omega,show e8 ak.c4 (D.set i r')=e8 ak.c4 D by omega,show e8 ak.c3 (D.set i r')=e8 ak.c3 D by omega,show e8 ak.c2 (D.set i r')=e8 ak.c2 D by omega]
 exact⟨st,sm,by unfold WgAt;rw[hw];exact ha,hm.anw Df⟩
theorem eg.quiet(h:eg t j)(hu:∀op∈u,op.act.touch?=none):eg (t++u) j:=by
 intro p hp hc
 obtain⟨op,ho,hg⟩:=Option.map_eq_some_iff.1 hp
 rcases getElem?_append_cases ho with ⟨cz,_⟩| ⟨_,hm⟩
 ·obtain⟨q,h1,h2⟩:=h p (by rw[←g?_old (u:=u) cz];exact hp) ((counts_old cz).1 hc)
  have hq:q <t.size:=by
   obtain⟨o,ho,_⟩:=Option.map_eq_some_iff.1 h1
   exact lt_size_of_getElem? ho
  exact⟨q,by rw[g?_old hq];exact h1,hb_app u h2⟩
 ·obtain⟨x,hx,_⟩:=hc
  obtain⟨o',DZ,kJ⟩:=touch_of hx
  rw[ho] at DZ;cases DZ
  rw[hu op hm] at kJ;cases kJ
theorem Rl{e:Event}(h:Event.mute e=true):(MemAct.ofEvent e).touch?=none:=by
 obtain⟨loc,wr,sy⟩:=e
 cases loc with
 |mark m=>cases m<;>first|rfl| (simp[Event.mute] at h)
 |_=>simp[Event.mute] at h
theorem Inv.leave(h:Inv E L K gs w t D pend cl main d0)(hm:gx E main){q d:Nat}{cur:Bool}(hi:D[i]?=some (.leave q d cur)) (hg:gs[i+1]?=some g) (hs:g.status= .running):
 ql E L K D pend cl main d0 (crowd gs w sl) sl t (i+1):=by
 obtain⟨eV,cU,eZ⟩:=h.base.ok i _ hi
 obtain rfl:eV=g:=by rw[hg] at cU;exact(Option.some.inj cU).symm
 obtain⟨hK,hq,hd,hc,hk⟩:=eZ
 cases q with
 |zero=>have:=hq.1;rw[hs] at this;cases this
 |succ q=>
  rcases hq with ⟨h1,_⟩| ⟨_,g',es,P1,bL,G5⟩
  ·rw[hs] at h1;cases h1
  ·have hu:=IE (i:=i+1) (fn:=eV.frame.fn) (pos:=eV.frame.place) P1
   have hrb:∀p,ConcN.RelBy (stA E.Wg) t (i+1) p→ConcN.RelBy (stA E.Wg) (t++MemOp.ofEvents (i+1) eV.frame.fn eV.frame.place es) (i+1) p:=fun p hp=>
    ConcN.RelBy.appOwn hp _ _ _ fun j e he=> .inl (Rl (P1 e (Array.mem_of_getElem? he)))
   refine h.go hm (r':= .leave q (deafBehind d es) cur) (s':=K (i+1)) (w':=w) hi (by simp) (by simp) hg (bL w) ⟨rfl,rfl⟩ (h.sy.kW _) (h.sy.kC _) rfl ?_ ?_ (fun op ax x hx=>by rw[hu op ax] at hx;cases hx) (fun op ax a=>NP P1 a op ax)
    (fun e=>e) (fun e=>e) (fun _ e=>e) (fun _ p hp=>hrb p hp) (Nat.le_refl _) rfl (DU (Nat.lt_succ_self q)) fun cl' hw _=>h.qd (r':= .leave q (deafBehind d es) cur) hi rfl rfl rfl rfl rfl cl' hw
   ·rw[lA]
    exact h.base.fit.quiet E.Wg h.sy.kW h.sy.lW (Nat.le_refl _) (fun _ _ _=>rfl) hu
   ·refine⟨hK,G5,?_,fun e=>let ⟨r,hr⟩:=hc e;⟨r,hrb r hr⟩,fun e=>(hk e).quiet hu⟩
    rw[Deaf_own,hd]
theorem Sy.zf(h:Sy E L K gs w t D pend cl)(ht:Trans (K j) w s' w' es)(fn:FuncId)(pos:String):
 ¬s'.knows E.Wg∧¬s'.knows E.Ch∧w'.heap[E.Wg]?=w.heap[E.Wg]?∧w'.heap[E.Ch]?=w.heap[E.Ch]?∧
 (∀op∈MemOp.ofEvents j fn pos es,∀x,op.act.touch?=some x→¬E.At x)∧(∀op∈MemOp.ofEvents j fn pos es,∀a,op.act≠ .mark (.release a)):=by
 obtain⟨st,sm,ha,_⟩:=h.cells
 obtain⟨sn,rc,tm,hc⟩:=h.chan
 have hW:E.Wg <w.heap.size:=lt_size ha
 have hC:E.Ch <w.heap.size:=lt_size hc
 have kn:∀b,b <w.heap.size→¬(K j).knows b→¬s'.knows b:=fun b hb hk jh=>by
  rcases jh with h'|h'
  ·rcases ht.JJ b h' with h1|h1|h1
   ·omega
   ·exact hk (.inl h1)
   ·exact hk (.inr h1)
  ·rcases ht.own b h' with h1|h1
   ·omega
   ·exact hk (.inr h1)
 refine⟨kn _ hW (h.kW j),kn _ hC (h.kC j),ht.frame _ hW fun ho=>h.kW j (.inr ho),ht.frame _ hC fun ho=>h.kC j (.inr ho),fun op ax x hx hb=>?_,fun op ax a e=>?_⟩
 ·obtain⟨_,b,lU,uj,_⟩:=(Ca ht.uO ax).2 x hx
  rcases hb with hb|hb
  ·obtain rfl:b=E.Wg:=by rw[hb] at lU;exact(Option.some.inj lU).symm
   rcases uj with h1|h1|h1
   ·omega
   ·exact h.kW j (.inr h1)
   ·exact h.kW j (.inl h1.2)
  ·obtain rfl:b=E.Ch:=by rw[hb] at lU;exact(Option.some.inj lU).symm
   rcases uj with h1|h1|h1
   ·omega
   ·exact h.kC j (.inr h1)
   ·exact h.kC j (.inl h1.2)
 ·rw[ofEvents_eq] at ax
  obtain⟨e',he,rfl⟩:=Array.mem_map.1 ax
  have hl:=Go.ConcR.loc_of_ofEvent e
  have:=ht.uO e' he
  unfold G1 at this
  rw[hl] at this
  simp[Bg] at this
theorem xG:∀(es:List Event) (d:Nat),(∀e∈es,G1 s n e)→es.foldl (fun d e=>match e.loc with| .mark .disable=>d+1| .mark .enable=>d-1|_=>d) d=d
 | [],_,_=>rfl
 |e::es,d,h=>by
  have he:=h e (by simp)
  have:(match e.loc with| .mark .disable=>d+1| .mark .enable=>d-1|_=>d)=d:=by
   unfold G1 at he
   split<;>simp_all[Bg]
  rw[List.foldl_cons,this]
  exact xG es d fun x hx=>h x (by simp[hx])
theorem Trans.deaf(ht:Trans s w s' w' es)(d:Nat):deafBehind d es=d:=by
 obtain⟨l⟩:=es
 rw[deafBehind,List.foldl_toArray']
 ·exact xG l d fun e he=>ht.uO e (by simpa using he)
 ·simp
theorem Inv.work(h:Inv E L K gs w t D pend cl main d0)(hm:gx E main){o:ι}{f:World→Tree}(hi:D[i]?=some (.work o (.node f))) (hg:gs[i+1]?=some g):
 ql E L K D pend cl main d0 (crowd gs w sl) sl t (i+1):=by
 obtain⟨eV,cU,eZ⟩:=h.base.ok i _ hi
 obtain rfl:eV=g:=by rw[hg] at cU;exact(Option.some.inj cU).symm
 obtain⟨hd,hs,gq⟩:=eZ
 obtain⟨g',w',es,s',bL,bN,ht,htr⟩:=gq w (h.base.fit.ju _)
 obtain⟨k1,k2,k3,k4,k5,k6⟩:=h.sy.zf ht eV.frame.fn eV.frame.place
 refine h.go hm (r':= .work o (f w)) hi (by simp) (by simp) hg bL ⟨ht.os,ht.output⟩ k1 k2 k4 (h.base.fit.own ht _ _) ⟨?_,htr⟩ (fun op ax x hx hb=>absurd hb (k5 op ax x hx)) k6
  (fun _=>rfl) (fun e=>e) (fun _ e=>e) (fun e=>(by cases e)) (Nat.le_refl _) rfl (Fg (.mk f w)) fun cl' hw _=>h.qd (r':= .work o (f w)) hi k3 rfl rfl rfl rfl cl' hw
 rw[Deaf_own,ht.deaf];exact hd
theorem Inv.back(h:Inv E L K gs w t D pend cl main d0)(hm:gx E main){f:World→Tree}(hi:D[i]?=some (.back (.node f))) (hg:gs[i+1]?=some g):
 ql E L K D pend cl main d0 (crowd gs w sl) sl t (i+1):=by
 obtain⟨eV,cU,eZ⟩:=h.base.ok i _ hi
 obtain rfl:eV=g:=by rw[hg] at cU;exact(Option.some.inj cU).symm
 obtain⟨hd,hs,gq⟩:=eZ
 obtain⟨g',w',es,s',bL,bN,ht,htr⟩:=gq w (h.base.fit.ju _)
 obtain⟨k1,k2,k3,k4,k5,k6⟩:=h.sy.zf ht eV.frame.fn eV.frame.place
 refine h.go hm (r':= .back (f w)) hi (by simp) (by simp) hg bL ⟨ht.os,ht.output⟩ k1 k2 k4 (h.base.fit.own ht _ _) ⟨?_,htr⟩ (fun op ax x hx hb=>absurd hb (k5 op ax x hx)) k6
  (fun _=>rfl) (fun e=>e) (fun _ e=>e) (fun e=>(by cases e)) (Nat.le_refl _) rfl (Fg (.mk f w)) fun cl' hw _=>h.qd (r':= .back (f w)) hi k3 rfl rfl rfl rfl cl' hw
 rw[Deaf_own,ht.deaf];exact hd
theorem Inv.aoi(h:Inv E L K gs w t D pend cl main d0)(hm:gx E main){k:WK}(hi:D[i]?=some (.st k (n+1))) (hg:gs[i+1]?=some g):
 ql E L K D pend cl main d0 (crowd gs w sl) sl t (i+1):=by
 obtain⟨eV,cU,eZ⟩:=h.base.ok i _ hi
 obtain rfl:eV=g:=by rw[hg] at cU;exact(Option.some.inj cU).symm
 obtain⟨hK,hd,⟨hs,g',bL,hp⟩,U9⟩:=eZ
 obtain⟨st,sm,ha,_⟩:=h.sy.cells
 have e0:MemOp.ofEvents (i+1) eV.frame.fn eV.frame.place #[]= #[]:=rfl
 refine h.go hm (r':= .st k n) (s':=K (i+1)) hi (by simp) (by simp) hg (bL w ⟨st,sm,ha⟩) ⟨rfl,rfl⟩ (h.sy.kW _) (h.sy.kC _) rfl ?_ ?_ (by rw[e0];simp) (by rw[e0];simp)
  (fun _=>rfl) (fun e=>e) (fun _ e=>e) (fun e=>(by cases e)) (by cases k<;>exact Nat.le_refl _) rfl (DU (Nat.lt_succ_self n)) fun cl' hw _=>h.qd (r':= .st k n) hi rfl (by cases k<;>rfl) (by cases k<;>rfl) (by cases k<;>rfl) (by cases k<;>rfl) cl' hw
 ·rw[lA,e0,Array.append_empty];exact h.base.fit
 ·rw[e0,Array.append_empty];exact⟨hK,hd,hp,U9⟩
end
theorem Md.d1{a c:Nat}{o:Option CK}(h:Md mx n a b c o st sm)(hn:1≤n)(ho:o≠none):
 ∃v wt:Nat,v+1=n∧wt≤1∧st=((v+1:Nat):Int)*KK+(wt:Int)∧sm=0∧a=0∧b=0∧c=0∧
  ((v=0∧wt=1)→Md mx v 1 0 0 o ((v:Int)*KK+(wt:Int)) 0)∧(¬(v=0∧wt=1)→Md mx v 0 0 0 o ((v:Int)*KK+(wt:Int)) 0):=by
 cases h with
 |start=>exact absurd rfl ho
 |kd=>exact⟨n-1,0,by omega,by omega,by rw[show n-1+1=n by omega];simp,rfl,rfl,rfl,rfl,fun h=>by omega,fun _=>by simpa using .kd⟩
 |w1 h1=>exact⟨n-1,0,by omega,by omega,by rw[show n-1+1=n by omega];simp,rfl,rfl,rfl,rfl,fun h=>by omega,fun _=>by simpa using .w1 (by omega)⟩
 |w2 h1 h2 h3=>exact⟨n-1,0,by omega,by omega,by rw[show n-1+1=n by omega];simp,rfl,rfl,rfl,rfl,fun h=>by omega,fun _=>by simpa using .w2 (by omega) h2 h3⟩
 |reg h1 h2=>
  refine⟨n-1,1,by omega,by omega,by rw[show n-1+1=n by omega];simp,rfl,rfl,rfl,rfl,fun h=>?_,fun h=>?_⟩
  ·rw[h.1];simpa using .l4 h1
  ·exact .reg h1 (by omega)
 |l4 _=>omega
 |l3 _=>omega
 |l2 _=>omega
 |sema _ _=>omega
 |over _=>omega
theorem Md.d2{a c:Nat}{o:Option CK}(h:Md mx n a b c o st sm)(hn:1≤a):st=1∧sm=0∧n=0∧a=1∧b=0∧c=0∧Md mx 0 0 1 0 o 1 0:=by
 cases h with
 |l4 h1=>exact⟨rfl,rfl,rfl,rfl,rfl,rfl,.l3 h1⟩
 |_=>omega
theorem Md.d3{a c:Nat}{o:Option CK}(h:Md mx n a b c o st sm)(hn:1≤b):st=1∧sm=0∧n=0∧a=0∧b=1∧c=0∧Md mx 0 0 0 1 o 0 0:=by
 cases h with
 |l3 h1=>exact⟨rfl,rfl,rfl,rfl,rfl,rfl,.l2 h1⟩
 |_=>omega
theorem Md.d4{a c:Nat}{o:Option CK}(h:Md mx n a b c o st sm)(hn:1≤c):st=0∧sm=0∧n=0∧a=0∧b=0∧c=1∧(o≠some .blk→Md mx 0 0 0 0 o 0 1):=by
 cases h with
 |l2 h1=>exact⟨rfl,rfl,rfl,rfl,rfl,rfl,fun h'=> .sema h1 fun e=>h' (by rw[e])⟩
 |_=>omega
theorem Md.run{a c:Nat}{o:Option CK}(h:Md mx n a b c o st sm){k:CK}(ho:o=some k)(hk:k.over):n=0∧a=0∧b=0∧c=0∧st=0∧sm=0:=by
 have nw:¬k.waits:=by cases k<;>simp_all[CK.over,CK.waits]
 cases h with
 |start=>cases ho
 |kd=>cases ho;exact hk.elim
 |w1 _=>cases ho;exact hk.elim
 |w2 _ _ _=>cases ho;exact hk.elim
 |reg h1 _=>cases ho;exact absurd h1 nw
 |l4 h1=>cases ho;exact absurd h1 nw
 |l3 h1=>cases ho;exact absurd h1 nw
 |l2 h1=>cases ho;exact absurd h1 nw
 |sema h1 _=>cases ho;exact absurd h1 nw
 |over _=>exact⟨rfl,rfl,rfl,rfl,rfl,rfl⟩
section
variable {ι:Type} {E:dK ι} {L:Nat→Option Obj} {K:Nat→St} {gs:Array Goroutine} {w w':World} {t u:Trace} {D:List (ak ι)} {pend d0:Nat} {cl:yQ} {main:Goroutine} {sl:Option (Nat×Nat)}
 {i:Nat} {g g':Goroutine} {es:Array Event}
structure eB(E:dK ι)(w w':World):Prop where
 size:w'.heap.size=w.heap.size
 block:∀b,b≠E.Wg→w'.heap[b]?=w.heap[b]?
 same:Tp w w'
theorem eB.refl(w:World):eB E w w:=⟨rfl,fun _ _=>rfl,rfl,rfl⟩
theorem eB.set(w:World)(k:Nat)(v:Value):eB E w (w.setCell ⟨E.Wg,k,none⟩ v):=
 ⟨by simp[World.setCell],fun b hb=>by simp[World.setCell,Array.getElem?_modify,Ne.symm hb],rfl,rfl⟩
theorem Sy.Ag(h:Sy E L K gs w t D pend cl)(hf:Fit L K w t)(hj:j=0∨∃k r,j=k+1∧D[k]?=some r∧r.left=false) (hw:eB E w w') (yo:∀e∈es,ig E e) (fn:FuncId) (pos:String):
 Fit L K w' (t++MemOp.ofEvents j fn pos es):=by
 have ho:=ig.ops yo j fn pos
 obtain⟨st,sm,ha,_⟩:=h.cells
 refine hf.beside E.Wg j h.kW h.lW (lt_size ha) (Nat.le_of_eq hw.size.symm) (fun b hb _=>hw.block b hb) (fun op ax=>(ho op ax).1) fun op ax x hx=>?_
 obtain⟨h1,h2⟩:=(ho op ax).2.2 x hx
 refine⟨h1,fun sd p a uk hc=>h.plain j hj p a uk (.inl (by rw[hc.1];exact h1)) ?_⟩
 rcases hc.2.2.2 with h3|h3|h3
 ·exact h3
 ·rw[h2] at h3;cases h3
 ·rw[h2] at h3;cases h3.2.2
theorem Inv.xS(h:Inv E L K gs w t D pend cl main d0)(hm:gx E main){k:WK}{r':ak ι}(hi:D[i]?=some (.st k 0)) (hg:gs[i+1]?=some g) (hgo:stepG E.P false g w= .go g' w' es)
 (hw:eB E w w') (yo:∀e∈es,ig E e) (R7:r'≠ .closer) (hr:nv E (t++MemOp.ofEvents (i+1) g.frame.fn g.frame.place es) (i+1) (K (i+1)) g' r')
 (FY:(∃ic tr n,cl=some (ic,.run tr,n))→r'.cur=true→False)
 (HJ:r'.cnt≤(ak.st (ι:=ι) k 0).cnt) (ac9:r'.Us=none) (P1:tW r' (.st k 0))
  (mC:Md E.max (e8 ak.cnt D+pend) (e8 ak.c4 D) (e8 ak.c3 D) (e8 ak.c2 D) (cl.map (·.2.1)) st sm)
 (m9:∀cl':yQ,cl'≠none→Md E.max (e8 ak.cnt D+pend) (e8 ak.c4 D) (e8 ak.c3 D) (e8 ak.c2 D) (cl'.map (·.2.1)) st sm→
  (mayWake E.P g=true→(g'.status= .running∨g'.status= .finished)→∀ic n,cl'≠some (ic,.blk,n))→
  ∃st sm,WgAt E.ty E.Wg w' st sm∧Md E.max (e8 ak.cnt (D.set i r')+pend) (e8 ak.c4 (D.set i r')) (e8 ak.c3 (D.set i r')) (e8 ak.c2 (D.set i r')) (cl'.map (·.2.1)) st sm)
 (Xy:(∃o,r'= .gp o)→main.status= .running:=by rintro⟨o,e⟩;cases e):
 ql E L K D pend cl main d0 (crowd gs w sl) sl t (i+1):=by
 have ho:=ig.ops yo (i+1) g.frame.fn g.frame.place
 have ir:cl≠none:=fun e=>by
  have:=h.sy.Dw
  subst e
  exact this _ (List.mem_of_getElem? hi)
 refine h.go hm (r':=r') (s':=K (i+1)) hi (by simp) R7 hg hgo hw.same (h.sy.kW _) (h.sy.kC _) (hw.block _ (Ne.symm h.sy.ne)) ?_ hr (fun op ax x hx _=>((ho op ax).2.2 x hx).2) (fun op ax=>(ho op ax).2.1)
  (fun _=>rfl) (fun e=>e.elim) (fun e e'=>(FY e e').elim) (fun e=>(by cases e)) HJ (by rw[ac9];rfl) P1 (fun cl' Df hb=>?_) Xy
 ·rw[lA]
  exact h.sy.Ag h.base.fit (.inr ⟨i,_,rfl,hi,rfl⟩) hw yo _ _
 ·refine m9 cl' ?_ (mC.anw Df) hb
  cases Df with
  |same=>exact ir
  |up ic=>simp
theorem Rn{cl:yQ}(h:cl≠none):cl.map (·.2.1)≠none:=by cases cl<;>simp_all
theorem aiO{cl:yQ}(h:∀ic n,cl≠some (ic,.blk,n)):cl.map (·.2.1)≠some .blk:=by
 match cl with
 |none=>simp
 |some (ic,c,n)=>intro e;simp only[Option.map_some,Option.some.injEq] at e;subst e;exact h ic n rfl
theorem JA{st4 st3 st2:Nat}{o:Option CK}{r r':ak ι}(hi:D[i]?=some r)
 (e1:n+r.cnt=e8 ak.cnt D+pend+r'.cnt) (e4:st4+r.c4=e8 ak.c4 D+r'.c4) (e3:st3+r.c3=e8 ak.c3 D+r'.c3) (e2:st2+r.c2=e8 ak.c2 D+r'.c2) (h:Md mx n st4 st3 st2 o st sm):
 Md mx (e8 ak.cnt (D.set i r')+pend) (e8 ak.c4 (D.set i r')) (e8 ak.c3 (D.set i r')) (e8 ak.c2 (D.set i r')) o st sm:=by
 have f1:=iZ ak.cnt (y:=r') hi
 have f4:=iZ ak.c4 (y:=r') hi
 have f3:=iZ ak.c3 (y:=r') hi
 have f2:=iZ ak.c2 (y:=r') hi
 rw[show e8 ak.cnt (D.set i r')+pend=n by omega,show e8 ak.c4 (D.set i r')=st4 by omega,show e8 ak.c3 (D.set i r')=st3 by omega,show e8 ak.c2 (D.set i r')=st2 by omega]
 exact h
theorem tG(f:ak ι→Nat){r:ak ι}(hi:D[i]?=some r):f r≤e8 f D:=by
 have:=iZ f (y:=ak.closer) hi
 have h0:=iZ f (D:=D.set i .closer) (i:=i) (x:= .closer) (y:=r) (by rw[List.getElem?_set_self (List.getElem?_eq_some_iff.1 hi).1])
 rw[List.set_set,show D.set i r=D from by obtain⟨hl,rfl⟩:=List.getElem?_eq_some_iff.1 hi;simp] at h0
 have key:∀(D:List (ak ι)) (i:Nat) (r:ak ι),D[i]?=some r→f r≤e8 f D:=by
  intro D
  induction D with
  |nil=>intro i r h;simp at h
  |cons a D ih=>
   intro i r h
   cases i with
   |zero=>simp only[List.getElem?_cons_zero,Option.some.injEq] at h;subst h;simp[e8]
   |succ i=>have:=ih i r (by simpa using h);simp only[e8,List.map_cons,List.sum_cons] at this ⊢;omega
 exact key D i r hi
theorem nA(k:Nat)(b:Bool):ig E ⟨.cell ⟨E.Wg,k,none⟩,b,true⟩:= .inr (.inr (.inr (.inr ⟨_,_,rfl,rfl⟩)))
theorem Inv.r0(h:Inv E L K gs w t D pend cl main d0)(hm:gx E main)(hi:D[i]?=some (.st .r0 0)) (hg:gs[i+1]?=some g):ql E L K D pend cl main d0 (crowd gs w sl) sl t (i+1):=by
 obtain⟨eV,cU,eZ⟩:=h.base.ok i _ hi
 obtain rfl:eV=g:=by rw[hg] at cU;exact(Option.some.inj cU).symm
 obtain⟨hK,hd,⟨hs,g',bL,n,hp⟩,_⟩:=eZ
 obtain⟨st,sm,ha,mC⟩:=h.sy.cells
 refine h.xS hm (r':= .st .k1 n) hi hg (bL w) (eB.refl w) (by intro e he;simp at he;subst he;exact .inr (.inr (.inl rfl))) (by simp) ?_ (fun _ e=>(by cases e)) (Nat.le_refl _) rfl (fL (by simp[ak.mu,WK.JQ])) mC fun cl' hc BD _=>?_
 ·refine⟨hK,?_,hp,fun _=>⟨_,ConcN.RelBy.new hd _ _⟩⟩
  rw[Deaf_own,hd];rfl
 ·exact⟨st,sm,ha,JA hi rfl rfl rfl rfl BD⟩
theorem Inv.k1(h:Inv E L K gs w t D pend cl main d0)(hm:gx E main)(hi:D[i]?=some (.st .k1 0)) (hg:gs[i+1]?=some g):ql E L K D pend cl main d0 (crowd gs w sl) sl t (i+1):=by
 obtain⟨eV,cU,eZ⟩:=h.base.ok i _ hi
 obtain rfl:eV=g:=by rw[hg] at cU;exact(Option.some.inj cU).symm
 obtain⟨hK,hd,⟨hs,g',bL,n,hp⟩,Ml⟩:=eZ
 obtain⟨p,gT⟩:=Ml rfl
 obtain⟨st,sm,ha,mC⟩:=h.sy.cells
 refine h.xS hm (r':= .st .d1 n) hi hg (bL w) (eB.refl w) (by intro e he;simp at he;subst he;exact .inl rfl) (by simp) ?_ (fun _ e=>(by cases e)) (Nat.le_refl _) rfl (fL (by simp[ak.mu,WK.JQ])) mC fun cl' hc BD _=>?_
 ·refine⟨hK,?_,hp,fun _=>⟨p,ConcN.RelBy.appOwn gT _ _ _ fun j e he=> .inl ?_⟩⟩
  ·rw[Deaf_own,hd];rfl
  ·have:=Array.mem_of_getElem? he;simp at this;subst this;rfl
 ·exact⟨st,sm,ha,JA hi rfl rfl rfl rfl BD⟩
theorem Inv.d1(h:Inv E L K gs w t D pend cl main d0)(hm:gx E main)(hi:D[i]?=some (.st .d1 0)) (hg:gs[i+1]?=some g):ql E L K D pend cl main d0 (crowd gs w sl) sl t (i+1):=by
 obtain⟨eV,cU,eZ⟩:=h.base.ok i _ hi
 obtain rfl:eV=g:=by rw[hg] at cU;exact(Option.some.inj cU).symm
 obtain⟨hK,hd,ayK,Ml⟩:=eZ
 obtain⟨p,gT⟩:=Ml rfl
 obtain⟨st,sm,ha,mC⟩:=h.sy.cells
 have ir:cl≠none:=fun e=>by
  have:=h.sy.Dw
  subst e
  exact this _ (List.mem_of_getElem? hi)
 have hn:1≤e8 ak.cnt D+pend:=Nat.le_trans (tG ak.cnt hi) (Nat.le_add_right _ _)
 obtain⟨v,wt,hv,hwt,rfl,rfl,ea,eb,ec,_,_⟩:=mC.d1 hn (Rn ir)
 have HF:=h.sy.Bm
 obtain⟨hs,cX⟩:=ayK
 obtain⟨g',bL,Ou,KM⟩:=cX v wt hwt (by omega)
 have ama:ConcN.RelBy (stA E.Wg) (t++MemOp.ofEvents (i+1) eV.frame.fn eV.frame.place #[rd (stA E.Wg),wr (stA E.Wg)]) (i+1) p:=by
  refine ConcN.RelBy.appOwn gT _ _ _ fun j e he=> .inr ?_
  have D8:Deaf t (i+1)=1:=hd
  match j,he with
  |0,he=>simp at he;subst he;exact⟨⟨_,_,rfl⟩,by simp[deafBehind,D8]⟩
  |1,he=>simp at he;subst he;exact⟨⟨_,_,rfl⟩,by simp[deafBehind,D8,rd]⟩
  |j+2,he=>simp at he
 have yq:Deaf (t++MemOp.ofEvents (i+1) eV.frame.fn eV.frame.place #[rd (stA E.Wg),wr (stA E.Wg)]) (i+1)=1:=by rw[Deaf_own,hd];rfl
 have yo:∀e∈ #[rd (stA E.Wg),wr (stA E.Wg)],ig E e:=by intro e he;simp at he;rcases he with rfl|rfl<;>exact nA 0 _
 have bN:¬ ∃ic tr n,cl=some (ic,CK.run tr,n):=fun⟨ic,tr,n,e⟩=>by
  have:=mC.run (k:= .run tr) (by rw[e];rfl) trivial
  omega
 by_cases hb:v=0∧wt=1
 ·obtain⟨n,hp⟩:=Ou hb
  refine h.xS hm (r':= .st .d2 n) hi hg (bL w ha) (eB.set w 0 _) yo (by simp) ⟨hK,yq,hp,fun _=>⟨p,ama⟩⟩ (fun _ e=>(by cases e)) (Nat.zero_le _) rfl (fL (by simp[ak.mu,WK.JQ])) mC fun cl' hc BD _=>?_
  obtain⟨v',wt',hv',aM4,est,_,_,_,_,h1,_⟩:=BD.d1 hn (Rn hc)
  have:v'=v:=by omega
  subst this
  have:wt'=wt:=by omega
  subst this
  exact⟨_,_,Go.ConcR.WgAt.setSt ha _,JA hi (by simp[ak.cnt];omega) (by simp[ak.c4];omega) (by simp[ak.c3];omega) (by simp[ak.c2];omega) (h1 hb)⟩
 ·obtain⟨q,hq⟩:=KM hb
  refine h.xS hm (r':= .leave q 1 true) hi hg (bL w ha) (eB.set w 0 _) yo (by simp) ⟨hK,hq,yq,fun _=>⟨p,ama⟩,fun e=>(by cases e)⟩ (fun e _=>bN e) (Nat.zero_le _) rfl (fL (by simp[ak.mu,WK.JQ])) mC fun cl' hc BD _=>?_
  obtain⟨v',wt',hv',aM4,est,_,_,_,_,_,h1⟩:=BD.d1 hn (Rn hc)
  have:v'=v:=by omega
  subst this
  have:wt'=wt:=by omega
  subst this
  exact⟨_,_,Go.ConcR.WgAt.setSt ha _,JA hi (by simp[ak.cnt];omega) (by simp[ak.c4];omega) (by simp[ak.c3];omega) (by simp[ak.c2];omega) (h1 hb)⟩
theorem Inv.d2(h:Inv E L K gs w t D pend cl main d0)(hm:gx E main)(hi:D[i]?=some (.st .d2 0)) (hg:gs[i+1]?=some g):ql E L K D pend cl main d0 (crowd gs w sl) sl t (i+1):=by
 obtain⟨eV,cU,eZ⟩:=h.base.ok i _ hi
 obtain rfl:eV=g:=by rw[hg] at cU;exact(Option.some.inj cU).symm
 obtain⟨hK,hd,⟨hs,g',bL,n,hp⟩,Ml⟩:=eZ
 obtain⟨p,gT⟩:=Ml rfl
 obtain⟨st,sm,ha,mC⟩:=h.sy.cells
 have hn:1≤e8 ak.c4 D:=tG ak.c4 hi
 obtain⟨rfl,rfl,e1,e4,e3,e2,_⟩:=mC.d2 hn
 refine h.xS hm (r':= .st .d3 n) hi hg (bL w ha) (eB.refl w) (by intro e he;simp at he;subst he;exact nA 0 _) (by simp) ?_ (fun _ e=>(by cases e)) (Nat.le_refl _) rfl (fL (by simp[ak.mu,WK.JQ])) mC fun cl' hc BD _=>?_
 ·refine⟨hK,?_,hp,fun _=>⟨p,ConcN.RelBy.appOwn gT _ _ _ fun j e he=> .inr ?_⟩⟩
  ·rw[Deaf_own,hd];rfl
  ·have D8:Deaf t (i+1)=1:=hd
   match j,he with
   |0,he=>simp at he;subst he;exact⟨⟨_,_,rfl⟩,by simp[deafBehind,D8]⟩
   |j+1,he=>simp at he
 ·exact⟨_,_,ha,JA hi (by simp[ak.cnt];omega) (by simp[ak.c4];omega) (by simp[ak.c3];omega) (by simp[ak.c2];omega) (BD.d2 hn).2.2.2.2.2.2⟩
theorem Inv.d3(h:Inv E L K gs w t D pend cl main d0)(hm:gx E main)(hi:D[i]?=some (.st .d3 0)) (hg:gs[i+1]?=some g):ql E L K D pend cl main d0 (crowd gs w sl) sl t (i+1):=by
 obtain⟨eV,cU,eZ⟩:=h.base.ok i _ hi
 obtain rfl:eV=g:=by rw[hg] at cU;exact(Option.some.inj cU).symm
 obtain⟨hK,hd,⟨hs,g',bL,n,hp⟩,Ml⟩:=eZ
 obtain⟨p,gT⟩:=Ml rfl
 obtain⟨st,sm,ha,mC⟩:=h.sy.cells
 have hn:1≤e8 ak.c3 D:=tG ak.c3 hi
 obtain⟨rfl,rfl,e1,e4,e3,e2,_⟩:=mC.d3 hn
 refine h.xS hm (r':= .st .d4 n) hi hg (bL w ha) (eB.set w 0 _) (by intro e he;simp at he;subst he;exact nA 0 _) (by simp) ?_ (fun _ e=>(by cases e)) (Nat.le_refl _) rfl (fL (by simp[ak.mu,WK.JQ])) mC fun cl' hc BD _=>?_
 ·refine⟨hK,?_,hp,fun _=>⟨p,ConcN.RelBy.appOwn gT _ _ _ fun j e he=> .inr ?_⟩⟩
  ·rw[Deaf_own,hd];rfl
  ·have D8:Deaf t (i+1)=1:=hd
   match j,he with
   |0,he=>simp at he;subst he;exact⟨⟨_,_,rfl⟩,by simp[deafBehind,D8]⟩
   |j+1,he=>simp at he
 ·exact⟨_,_,Go.ConcR.WgAt.setSt ha _,JA hi (by simp[ak.cnt];omega) (by simp[ak.c4];omega) (by simp[ak.c3];omega) (by simp[ak.c2];omega) (BD.d3 hn).2.2.2.2.2.2⟩
theorem Inv.d4(h:Inv E L K gs w t D pend cl main d0)(hm:gx E main)(hi:D[i]?=some (.st .d4 0)) (hg:gs[i+1]?=some g):ql E L K D pend cl main d0 (crowd gs w sl) sl t (i+1):=by
 obtain⟨eV,cU,eZ⟩:=h.base.ok i _ hi
 obtain rfl:eV=g:=by rw[hg] at cU;exact(Option.some.inj cU).symm
 obtain⟨hK,hd,⟨hs,hmw,g',bL,q,hq⟩,Ml⟩:=eZ
 obtain⟨p,gT⟩:=Ml rfl
 obtain⟨st,sm,ha,mC⟩:=h.sy.cells
 have hn:1≤e8 ak.c2 D:=tG ak.c2 hi
 obtain⟨rfl,rfl,e1,e4,e3,e2,_⟩:=mC.d4 hn
 have D8:Deaf t (i+1)=1:=hd
 have bN:¬ ∃ic tr n,cl=some (ic,CK.run tr,n):=fun⟨ic,tr,n,e⟩=>by
  have:=mC.run (k:= .run tr) (by rw[e];rfl) trivial
  omega
 refine h.xS hm (r':= .leave q 1 true) hi hg (bL w ha) (eB.set w 1 _) (by
  intro e he;simp[semEvents] at he
  rcases he with rfl|rfl|rfl|rfl
  ·exact .inl rfl
  ·exact nA 1 _
  ·exact nA 1 _
  ·exact .inr (.inl rfl)) (by simp) ?_ (fun e _=>bN e) (Nat.le_refl _) rfl (fL (by simp[ak.mu,WK.JQ])) mC fun cl' hc BD hb=>?_
 ·refine⟨hK,hq,?_,fun _=>⟨p,ConcN.RelBy.appOwn gT _ _ _ fun j e he=>?_⟩,fun e=>(by cases e)⟩
  ·rw[Deaf_own,hd];rfl
  ·match j,he with
   |0,he=>simp[semEvents] at he;subst he;exact .inl rfl
   |1,he=>simp[semEvents] at he;subst he;exact .inr ⟨⟨_,_,rfl⟩,by simp[deafBehind,D8,semEvents]⟩
   |2,he=>simp[semEvents] at he;subst he;exact .inr ⟨⟨_,_,rfl⟩,by simp[deafBehind,D8,semEvents]⟩
   |3,he=>simp[semEvents] at he;subst he;exact .inl rfl
   |j+4,he=>simp[semEvents] at he
 ·exact⟨_,_,Go.ConcR.WgAt.setSm ha _,JA hi (by simp[ak.cnt];omega) (by simp[ak.c4];omega) (by simp[ak.c3];omega) (by simp[ak.c2];omega) ((BD.d4 hn).2.2.2.2.2.2 (aiO (hb hmw hq.status)))⟩
end
def CK.phi(mx:Nat):CK→Nat
 | .kd=>2*mx+9
 | .w1 b=>2*b+8
 | .w2 b _=>2*b+9
 | .wr=>7
 | .w3| .blk=>6
 | .w4=>5
 | .ke=>4
 | .aq=>3
 | .run _=>2
def CK.tree:CK→Tree
 | .run tr=>tr
 |_=> .leaf
def mP(mx:Nat):yQ→Nat×Tree×Nat
 |none=>(0,.leaf,0)
 |some (_,c,n)=>(c.phi mx,c.tree,n)
section
variable {ι:Type} {E:dK ι} {L:Nat→Option Obj} {K:Nat→St} {gs:Array Goroutine} {w w':World} {t u:Trace} {D:List (ak ι)} {pend d0:Nat} {main:Goroutine} {sl:Option (Nat×Nat)}
 {ic:Nat} {g g':Goroutine} {es:Array Event} {c:CK} {n:Nat}
def PM(E:dK ι)(L:Nat→Option Obj)(K:Nat→St)(D:List (ak ι))(pend:Nat)(ic:Nat)(c:CK)(n:Nat)(main:Goroutine)(d0:Nat)(m:Machine)(sl:Option (Nat×Nat))(t:Trace):Prop:=
 ∃K' kK w' u c' n',runT E.P m (ic+1)=(.next (crowd kK w' sl),u)∧Inv E L K' kK w' (t++u) D pend (some (ic,c',n')) main d0∧K' 0=K 0∧DC (mP E.max (some (ic,c',n'))) (mP E.max (some (ic,c,n)))
theorem Inv.goC(h:Inv E L K gs w t D pend (some (ic,c,n)) main d0)(hm:gx E main){c':CK} 
 (hg:gs[ic+1]?=some g) (hgo:stepG E.P false g w= .go g' w' es) (Oa:Tp w w')
 (bV:¬s'.knows E.Wg) (oB:¬s'.knows E.Ch) (uM:w'.heap[E.Ch]?=w.heap[E.Ch]?)
 (oP:Fit L (fD K (ic+1) s') w' (t++MemOp.ofEvents (ic+1) g.frame.fn g.frame.place es))
 (kB:∀op∈MemOp.ofEvents (ic+1) g.frame.fn g.frame.place es,∀x,op.act.touch?=some x→E.At x→x.kind≠ .plain)
 (U9:c'.early→c.early∧∀op∈MemOp.ofEvents (ic+1) g.frame.fn g.frame.place es,∀x,op.act.touch?=some x→blk x.loc=some E.Wg→x.kind≠ .said)
 (gT:∀op∈MemOp.ofEvents (ic+1) g.frame.fn g.frame.place es,∀a,op.act≠ .mark (.release a))
 (m9:∃st sm,WgAt E.ty E.Wg w' st sm∧Md E.max (e8 ak.cnt D+pend) (e8 ak.c4 D) (e8 ak.c3 D) (e8 ak.c2 D) (some c') st sm)
 (yq:deafBehind c.deaf es=c'.deaf) (pf:c'.at E s' g' n') (Sr:(∃tr,c'= .run tr)→AcqAll E (t++MemOp.ofEvents (ic+1) g.frame.fn g.frame.place es) D ic)
 (P1:DC (mP E.max (some (ic,c',n'))) (mP E.max (some (ic,c,n)))):
 PM E L K D pend ic c n main d0 (crowd gs w sl) sl t:=by
 have hu:∀op∈MemOp.ofEvents (ic+1) g.frame.fn g.frame.place es,op.g=ic+1:=fun op ax=>Go.ConcR.g_of_ofEvents op ax
 obtain⟨h1,h2,h3,⟨gc,D7,bcI⟩,h5⟩:=h.sy.Dw
 have cz:=(List.getElem?_eq_some_iff.1 h1).1
 obtain⟨sn,rc,tm,hc⟩:=h.sy.chan
 have sA:w'.heap[E.Ch]?=some (.chan 0 #[] false sn rc tm):=by rw[uM];exact hc
 have eD:D.set ic ak.closer=D:=by obtain⟨hl,e⟩:=List.getElem?_eq_some_iff.1 h1;rw[←e];simp
 have Vs:=h.base.step (g:=g) (g':=g') (r':= .closer) cz hu Oa oP trivial fun _ _ _ _=>⟨sn,rc,tm,sA⟩
 rw[eD] at Vs
 have bN:=runT_crowd_go (P:=E.P) (sl:=sl) (i:=ic+1) hg (by simpa using hgo)
 have Ha:∀b,¬s'.knows b→(∀j,¬(K j).knows b)→∀j,¬(fD K (ic+1) s' j).knows b:=fun b h1 h2 j=>by
  by_cases e:j=ic+1
  ·subst e;rw[aB];exact h1
  ·rw[aD _ _ e];exact h2 j
 have old:∀p x,touchAt (t++MemOp.ofEvents (ic+1) g.frame.fn g.frame.place es) p=some x→E.At x→x.kind= .plain→touchAt t p=some x:=fun p x hx hb hk=>by
  rcases bw hx with ⟨_,h'⟩| ⟨_,op,hm,_,xy⟩
  ·exact h'
  ·exact absurd hk (kB op hm x xy hb)
 refine⟨_,_,w',_,c',n',bN,⟨Vs,⟨Ha _ bV h.sy.kW,Ha _ oB h.sy.kC,h.sy.lW,h.sy.lC,h.sy.ne,fun a=>(h.sy.norel a).app fun op ax=>gT op ax a,fun j hj p x hx hb hk=>(h.sy.plain j hj p x (old p x hx hb hk) hb hk).app _,fun he p x hx hb hk=>?_,m9,h.sy.Bm,⟨sn,rc,tm,sA⟩,fun sn rc tm hc=>h.sy.bal sn rc tm (by rw[←uM];exact hc),
  ⟨h1,h2,by rw[Deaf_own,h3];exact yq,⟨g',by simp[h.base.size,cz],by rw[aB];exact pf⟩,Sr⟩⟩,?_,?_⟩,aD _ _ (by omega),P1⟩
 ·rcases bw hx with ⟨_,h'⟩| ⟨_,op,hm,_,xy⟩
  ·exact(h.sy.said (U9 he).1 p x h' hb hk).app _
  ·exact absurd hk ((U9 he).2 op hm x xy hb)
 ·rw[fQ (by omega) h.main,hm.woken _ _ sA]
 ·rw[gG _ _ fun op ax=>by rw[hu op ax];omega];exact h.deaf
theorem Inv.xv(h:Inv E L K gs w t D pend (some (ic,c,n)) main d0)(hm:gx E main){c':CK} 
 (hg:gs[ic+1]?=some g) (hgo:stepG E.P false g w= .go g' w' es) (hw:eB E w w') (yo:∀e∈es,ig E e) (yp:c'.early→c.early)
 (m9:∃st sm,WgAt E.ty E.Wg w' st sm∧Md E.max (e8 ak.cnt D+pend) (e8 ak.c4 D) (e8 ak.c3 D) (e8 ak.c2 D) (some c') st sm)
 (yq:deafBehind c.deaf es=c'.deaf) (pf:c'.at E (K (ic+1)) g' n') (Sr:(∃tr,c'= .run tr)→AcqAll E (t++MemOp.ofEvents (ic+1) g.frame.fn g.frame.place es) D ic)
 (P1:DC (mP E.max (some (ic,c',n'))) (mP E.max (some (ic,c,n)))):
 PM E L K D pend ic c n main d0 (crowd gs w sl) sl t:=by
 have ho:=ig.ops yo (ic+1) g.frame.fn g.frame.place
 refine h.goC hm hg hgo hw.same (h.sy.kW _) (h.sy.kC _) (hw.block _ (Ne.symm h.sy.ne)) ?_ (fun op ax x hx _=>by rw[((ho op ax).2.2 x hx).2];simp) (fun e=>⟨yp e,fun op ax x hx _=>by rw[((ho op ax).2.2 x hx).2];simp⟩)
  (fun op ax=>(ho op ax).2.1) m9 yq pf Sr P1
 rw[lA]
 exact h.sy.Ag h.base.fit (.inr ⟨ic,_,rfl,h.sy.Dw.1,rfl⟩) hw yo _ _
theorem Inv.Ci(h:Inv E L K gs w t D pend (some (ic,c,n)) main d0)(hm:gx E main)(hg:gs[ic+1]?=some g) (P0:∀tr,c≠ .run tr)
 (bL:∀w,E.live w→stepG E.P false g w= .go g' w #[]) (pf:c.at E (K (ic+1)) g' n') (hn:n' <n):PM E L K D pend ic c n main d0 (crowd gs w sl) sl t:=by
 obtain⟨st,sm,ha,mC⟩:=h.sy.cells
 exact h.xv hm hg (bL w ⟨st,sm,ha⟩) (eB.refl w) (by simp) (fun e=>e) ⟨st,sm,ha,mC⟩ rfl pf (fun⟨tr,e⟩=>absurd e (P0 tr)) (DU hn)
theorem Md.zero{a c:Nat}{k:CK}(h:Md mx n a b c (some k) st sm)(hk:k= .kd∨(∃b,k= .w1 b)∨∃b v,k= .w2 b v):st=(n:Int)*KK∧sm=0∧a=0∧b=0∧c=0∧(∀b,k= .w1 b→n≤b)∧∀b v,k= .w2 b v→n≤v∧1≤v∧v≤b+1:=by
 have nw:¬k.waits∧¬k.over:=by rcases hk with rfl| ⟨_,rfl⟩| ⟨_,_,rfl⟩<;>exact⟨id,id⟩
 cases h with
 |kd=>exact⟨rfl,rfl,rfl,rfl,rfl,(fun _ e=>(by cases e)),(fun _ _ e=>(by cases e))⟩
 |w1 h1=>exact⟨rfl,rfl,rfl,rfl,rfl,(fun _ e=>by cases e;exact h1),(fun _ _ e=>(by cases e))⟩
 |w2 h1 h2 h3=>exact⟨rfl,rfl,rfl,rfl,rfl,(fun _ e=>(by cases e)),(fun _ _ e=>by cases e;exact⟨h1,h2,h3⟩)⟩
 |reg h1 _=>exact absurd h1 nw.1
 |l4 h1=>exact absurd h1 nw.1
 |l3 h1=>exact absurd h1 nw.1
 |l2 h1=>exact absurd h1 nw.1
 |sema h1 _=>exact absurd h1 nw.1
 |over h1=>exact absurd h1 nw.2
theorem Md.waiting{a c:Nat}{k k':CK}(h:Md mx n a b c (some k) st sm)(hk:k.waits)(jh:k'.waits)(hb:k'≠ .blk∨sm=0):Md mx n a b c (some k') st sm:=by
 cases h with
 |kd=>exact hk.elim
 |w1 _=>exact hk.elim
 |w2 _ _ _=>exact hk.elim
 |reg _ h2=>exact .reg jh h2
 |l4 _=>exact .l4 jh
 |l3 _=>exact .l3 jh
 |l2 _=>exact .l2 jh
 |sema _ _=>exact .sema jh (hb.resolve_right (by decide))
 |over h1=>cases k<;>first|exact hk.elim|exact h1.elim
theorem Md.up{a c:Nat}{k:CK}(h:Md mx n a b c (some k) st sm)(hk:k.waits):(∃x,x=st∧sm=0)∨(st=0∧sm=1∧n=0∧a=0∧b=0∧c=0):=by
 cases h with
 |kd=>exact hk.elim
 |w1 _=>exact hk.elim
 |w2 _ _ _=>exact hk.elim
 |reg _ _=>exact .inl ⟨_,rfl,rfl⟩
 |l4 _=>exact .inl ⟨_,rfl,rfl⟩
 |l3 _=>exact .inl ⟨_,rfl,rfl⟩
 |l2 _=>exact .inl ⟨_,rfl,rfl⟩
 |sema _ _=>exact .inr ⟨rfl,rfl,rfl,rfl,rfl,rfl⟩
 |over h1=>cases k<;>first|exact hk.elim|exact h1.elim
theorem Wz:(∀e∈ #[said .disable],ig E e)∧(∀e∈ #[said .enable],ig E e)∧(∀e∈ #[said (.acquire (stA E.Wg))],ig E e)∧(∀e∈ #[rd (stA E.Wg)],ig E e)∧(∀e∈ #[rd (stA E.Wg),wr (stA E.Wg)],ig E e)∧(∀e∈semEvents (smA E.Wg),ig E e):=by
 refine⟨?_,?_,?_,?_,?_,?_⟩
 ·intro e he;simp at he;subst he;exact .inl rfl
 ·intro e he;simp at he;subst he;exact .inr (.inl rfl)
 ·intro e he;simp at he;subst he;exact .inr (.inr (.inr (.inl rfl)))
 ·intro e he;simp at he;subst he;exact nA 0 _
 ·intro e he;simp at he;rcases he with rfl|rfl<;>exact nA 0 _
 ·intro e he;simp[semEvents] at he
  rcases he with rfl|rfl|rfl|rfl
  ·exact .inl rfl
  ·exact nA 1 _
  ·exact nA 1 _
  ·exact .inr (.inl rfl)
end
section
variable {ι:Type} {E:dK ι} {L:Nat→Option Obj} {K:Nat→St} {gs:Array Goroutine} {w w':World} {t u:Trace} {D:List (ak ι)} {pend d0:Nat} {main:Goroutine} {sl:Option (Nat×Nat)}
 {ic:Nat} {g g':Goroutine} {es:Array Event} {c:CK} {n:Nat}
theorem Inv.closer(h:Inv E L K gs w t D pend (some (ic,c,n)) main d0)(hm:gx E main)(hg:gs[ic+1]?=some g) (hs:g.status= .running) (P0:c≠ .run .leaf):
 PM E L K D pend ic c n main d0 (crowd gs w sl) sl t:=by
 obtain⟨_,_,yq,⟨gc,D7,pf⟩,Sr⟩:=h.sy.Dw
 obtain rfl:gc=g:=by rw[hg] at D7;exact(Option.some.inj D7).symm
 obtain⟨st,sm,ha,mC⟩:=h.sy.cells
 obtain⟨s1,s2,s3,s4,s5,s6⟩:=Wz (E:=E)
 cases c with
 |kd=>
  cases n with
  |succ n=>obtain⟨_,g',bL,hp⟩:=pf;exact h.Ci hm hg (by simp) bL hp (Nat.lt_succ_self n)
  |zero=>
   obtain⟨_,g',bL,n',hp⟩:=pf
   obtain⟨rfl,rfl,e4,e3,e2,_⟩:=mC.zero (.inl rfl)
   refine h.xv hm (c':= .w1 E.max) hg (bL w) (eB.refl w) s1 (fun _=>trivial) ⟨_,_,ha,?_⟩ rfl hp (fun⟨_,e⟩=>(by cases e)) (fL (by simp[mP,CK.phi]))
   rw[e4,e3,e2];exact .w1 h.sy.Bm
 |w1 b=>
  cases n with
  |succ n=>
   have:∃g',(∀w,E.live w→stepG E.P false gc w= .go g' w #[])∧Pure E.P false E.live (E.W1 (K (ic+1)) b) n g':=pf.2
   obtain⟨g',bL,hp⟩:=this
   exact h.Ci hm hg (by simp) bL hp (Nat.lt_succ_self n)
  |zero=>
   obtain⟨rfl,rfl,e4,e3,e2,hb,_⟩:=mC.zero (.inr (.inl ⟨b,rfl⟩))
   have hle:=hb b rfl
   rw[e4,e3,e2] at mC
   have out:(∃g',(∀w,WgAt E.ty E.Wg w 0 0→stepG E.P false gc w= .go g' w #[rd (stA E.Wg)])∧E.pure false (E.Ke (K (ic+1))) g')→e8 ak.cnt D+pend=0→PM E L K D pend ic (.w1 b) 0 main d0 (crowd gs w sl) sl t:=by
    rintro⟨g',bL,n',hp⟩ h0
    rw[h0] at ha
    have uk:WgAt E.ty E.Wg w 0 0:=by simpa using ha
    refine h.xv hm (c':= .ke) hg (bL w uk) (eB.refl w) s4 (fun e=>e.elim) ⟨_,_,uk,?_⟩ rfl hp (fun⟨_,e⟩=>(by cases e)) (fL (by simp[mP,CK.phi]))
    rw[e4,e3,e2,h0];exact .over trivial
   cases b with
   |zero=>exact out pf.2 (by omega)
   |succ b=>
    obtain⟨_,h0,hv⟩:=pf
    by_cases hz:e8 ak.cnt D+pend=0
    ·exact out h0 hz
    ·obtain⟨g',bL,n',hp⟩:=hv (e8 ak.cnt D+pend) (by omega) hle
     refine h.xv hm (c':= .w2 b (e8 ak.cnt D+pend)) hg (bL w ha) (eB.refl w) s4 (fun _=>trivial) ⟨_,_,ha,?_⟩ rfl hp (fun⟨_,e⟩=>(by cases e)) (fL (by simp only[mP,CK.phi];omega))
     rw[e4,e3,e2];exact .w2 (Nat.le_refl _) (by omega) hle
 |w2 b v=>
  cases n with
  |succ n=>obtain⟨_,g',bL,hp⟩:=pf;exact h.Ci hm hg (by simp) bL hp (Nat.lt_succ_self n)
  |zero=>
   obtain⟨rfl,rfl,e4,e3,e2,_,hb⟩:=mC.zero (.inr (.inr ⟨b,v,rfl⟩))
   obtain⟨h1,h2,h3⟩:=hb b v rfl
   obtain⟨_,⟨eV,aNu,n1,hp1⟩,azt⟩:=pf
   by_cases hv:e8 ak.cnt D+pend=v
   ·rw[hv] at ha
    refine h.xv hm (c':= .wr) hg (aNu w ha) (eB.set w 0 _) s5 (fun _=>trivial) ⟨_,_,Go.ConcR.WgAt.setSt ha _,?_⟩ rfl hp1 (fun⟨_,e⟩=>(by cases e)) (fL (by simp only[mP,CK.phi];omega))
    rw[e4,e3,e2,hv];exact .reg trivial h2
   ·obtain⟨p5,aNt,n2,PZ⟩:=azt (e8 ak.cnt D+pend) (by omega)
    refine h.xv hm (c':= .w1 b) hg (aNt w ha) (eB.refl w) s4 (fun _=>trivial) ⟨_,_,ha,?_⟩ rfl PZ (fun⟨_,e⟩=>(by cases e)) (fL (by simp only[mP,CK.phi];omega))
    rw[e4,e3,e2];exact .w1 (by omega)
 |wr=>
  cases n with
  |succ n=>obtain⟨_,g',bL,hp⟩:=pf;exact h.Ci hm hg (by simp) bL hp (Nat.lt_succ_self n)
  |zero=>
   obtain⟨_,g',bL,n',hp⟩:=pf
   have e1:MemOp.ofEvents (ic+1) gc.frame.fn gc.frame.place #[said (.write (smA E.Wg))]= #[{g:=ic+1,fn:=gc.frame.fn,pos:=gc.frame.place,act:= .mark (.write (smA E.Wg))}]:=by rw[ofEvents_eq];simp[said,Go.ConcR.ofEvent_mk]
   refine h.goC hm (c':= .w3) (n':=n'+1) (s':=K (ic+1)) hg (bL w) ⟨rfl,rfl⟩ (h.sy.kW _) (h.sy.kC _) rfl ?_ (fun op ax x hx _=>?_) (fun e=>e.elim) (fun op ax=>?_)
    ⟨_,_,ha,mC.waiting trivial trivial (.inl (by simp))⟩ rfl ⟨n',rfl,hp⟩ (fun⟨_,e⟩=>(by cases e)) (fL (by simp[mP,CK.phi]))
   ·rw[lA,e1]
    refine h.base.fit.beside E.Wg (ic+1) h.sy.kW h.sy.lW (lt_size ha) (Nat.le_refl _) (fun _ _ _=>rfl) (by simp) fun op ax x hx=>?_
    simp only[List.mem_toArray,List.mem_singleton] at ax
    subst ax
    simp only[MemAct.touch?,Option.some.injEq] at hx
    subst hx
    refine⟨rfl,fun sd p a uk hc=>?_⟩
    have hl:blk a.loc=some E.Wg:=by rw[hc.1];rfl
    rcases hc.2.2.2 with h3|h3|h3
    ·exact h.sy.plain _ (.inr ⟨ic,_,rfl,h.sy.Dw.1,rfl⟩) p a uk (.inl hl) h3
    ·cases h3
    ·exact h.sy.said trivial p a uk hl h3.2.1
   ·rw[e1] at ax
    simp only[List.mem_toArray,List.mem_singleton] at ax
    subst ax
    simp only[MemAct.touch?,Option.some.injEq] at hx
    subst hx
    simp
   ·rw[e1] at ax
    simp only[List.mem_toArray,List.mem_singleton] at ax
    subst ax
    simp
 |w3=>
  obtain⟨m,rfl,hp⟩:=pf
  cases m with
  |succ m=>obtain⟨_,g',bL,hp⟩:=hp;exact h.Ci hm hg (by simp) bL ⟨m,rfl,hp⟩ (Nat.lt_succ_self _)
  |zero=>
   have hp0:E.W3 (K (ic+1)) gc:=hp
   obtain⟨h1,h2,hb,g',bL,n',hp⟩:=hp
   rcases mC.up trivial with ⟨_,rfl,rfl⟩| ⟨rfl,rfl,e1,e4,e3,e2⟩
   ·refine h.xv hm (c':= .blk) (n':=0) hg (hb w _ ha) (eB.refl w) (by simp) (fun e=>e.elim) ⟨_,_,ha,mC.waiting trivial trivial (.inr rfl)⟩ rfl ⟨rfl,gc,hp0,rfl⟩ (fun⟨_,e⟩=>(by cases e)) (DU (Nat.lt_succ_self 0))
   ·refine h.xv hm (c':= .w4) hg (bL w ha) (eB.set w 1 _) s6 (fun e=>e.elim) ⟨_,_,Go.ConcR.WgAt.setSm ha _,?_⟩ rfl hp (fun⟨_,e⟩=>(by cases e)) (fL (by simp[mP,CK.phi]))
    rw[e1,e4,e3,e2];exact .over trivial
 |blk=>
  obtain⟨_,uC,_,e⟩:=pf
  rw[e] at hs;cases hs
 |w4=>
  obtain⟨e1,e4,e3,e2,rfl,rfl⟩:=mC.run rfl trivial
  cases n with
  |succ n=>obtain⟨_,g',bL,hp⟩:=pf;exact h.Ci hm hg (by simp) bL hp (Nat.lt_succ_self n)
  |zero=>
   obtain⟨_,g',bL,n',hp⟩:=pf
   refine h.xv hm (c':= .ke) hg (bL w ha) (eB.refl w) s4 (fun e=>e.elim) ⟨_,_,ha,?_⟩ rfl hp (fun⟨_,e⟩=>(by cases e)) (fL (by simp[mP,CK.phi]))
   rw[e1,e4,e3,e2];exact .over trivial
 |ke=>
  obtain⟨e1,e4,e3,e2,rfl,rfl⟩:=mC.run rfl trivial
  cases n with
  |succ n=>obtain⟨_,g',bL,hp⟩:=pf;exact h.Ci hm hg (by simp) bL hp (Nat.lt_succ_self n)
  |zero=>
   obtain⟨_,g',bL,n',hp⟩:=pf
   refine h.xv hm (c':= .aq) hg (bL w) (eB.refl w) s2 (fun e=>e.elim) ⟨_,_,ha,?_⟩ rfl hp (fun⟨_,e⟩=>(by cases e)) (fL (by simp[mP,CK.phi]))
   rw[e1,e4,e3,e2];exact .over trivial
 |aq=>
  obtain⟨e1,e4,e3,e2,rfl,rfl⟩:=mC.run rfl trivial
  cases n with
  |succ n=>obtain⟨_,g',bL,hp⟩:=pf;exact h.Ci hm hg (by simp) bL hp (Nat.lt_succ_self n)
  |zero=>
   obtain⟨_,g',bL,tr,gP,hle,hp⟩:=pf
   have q1:MemOp.ofEvents (ic+1) gc.frame.fn gc.frame.place #[said (.acquire (stA E.Wg))]= #[{g:=ic+1,fn:=gc.frame.fn,pos:=gc.frame.place,act:= .mark (.acquire (stA E.Wg))}]:=by rw[ofEvents_eq];simp[said,Go.ConcR.ofEvent_mk]
   have hy:(t++ #[({g:=ic+1,fn:=gc.frame.fn,pos:=gc.frame.place,act:= .mark (.acquire (stA E.Wg))}:MemOp)])[t.size]?=some {g:=ic+1,fn:=gc.frame.fn,pos:=gc.frame.place,act:= .mark (.acquire (stA E.Wg))}:=by simp
   refine h.goC hm (c':= .run tr) (n':=0) (s':=gP) hg (bL w) ⟨rfl,rfl⟩ (fun hk=>h.sy.kW _ (hle.knows hk)) (fun hk=>h.sy.kC _ (hle.knows hk)) rfl ?_
    (fun op ax x hx _=>by rw[((ig.ops s3 _ _ _ op ax).2.2 x hx).2];simp) (fun e=>e.elim) (fun op ax=>(ig.ops s3 _ _ _ op ax).2.1) ⟨_,_,ha,?_⟩ rfl ⟨rfl,hp⟩ (fun _=>?_) (fL (by simp[mP,CK.phi]))
   ·refine(h.sy.Ag h.base.fit (.inr ⟨ic,_,rfl,h.sy.Dw.1,rfl⟩) (eB.refl w) s3 _ _).le fun j=>?_
    by_cases e:j=ic+1
    ·subst e;rw[aB];exact hle
    ·rw[aD _ _ e];exact St.le_refl _
   ·rw[e1,e4,e3,e2];exact .over trivial
   ·rw[q1]
    refine⟨t.size,by rw[act?_of hy],by simp[Trace.g?],⟨ic+1,by simp[Trace.g?],by rw[deaf_old (Nat.le_refl _)];exact yq⟩,fun i r hi hc=>?_⟩
    obtain⟨x,hx,eZ⟩:=h.base.ok i r hi
    cases r with
    |leave q d cur=>
     obtain⟨p,hp⟩:=eZ.2.2.2.1 hc
     have dP:i≠ic:=fun e=>by subst e;rw[h.sy.Dw.1] at hi;cases hi
     refine⟨p,RelBy.other hp (fun op ax=>by simp at ax;subst ax;simp;omega),lt_of_act? hp.act⟩
    |_=>cases hc
 |run tr=>
  obtain⟨e1,e4,e3,e2,rfl,rfl⟩:=mC.run rfl trivial
  obtain⟨rfl,hp⟩:=pf
  cases tr with
  |leaf=>exact absurd rfl P0
  |node f=>
   obtain⟨_,gq⟩:=hp
   obtain⟨g',w',es,s',bL,bN,ht,htr⟩:=gq w (h.base.fit.ju _)
   obtain⟨k1,k2,k3,k4,k5,k6⟩:=h.sy.zf ht gc.frame.fn gc.frame.place
   refine h.goC hm (c':= .run (f w)) (n':=0) hg bL ⟨ht.os,ht.output⟩ k1 k2 k4 (h.base.fit.own ht _ _) (fun op ax x hx hb=>absurd hb (k5 op ax x hx)) (fun e=>e.elim) k6
    ⟨0,0,by unfold WgAt;rw[k3];exact ha,by rw[e1,e4,e3,e2];exact .over trivial⟩ (ht.deaf _) ⟨rfl,htr⟩ (fun _=>?_) (Fg (.mk f w))
   have:=(Sr ⟨_,rfl⟩).step (r:= .closer) (r':= .closer) h.sy.Dw.1 (u:=MemOp.ofEvents (ic+1) gc.frame.fn gc.frame.place es) (fun op ax=>Go.ConcR.g_of_ofEvents op ax) (fun e=>e) (fun e=>(by cases e))
   rwa[show D.set ic ak.closer=D from by obtain⟨hl,e⟩:=List.getElem?_eq_some_iff.1 h.sy.Dw.1;rw[←e];simp] at this
end
section
variable {ι:Type} {E:dK ι} {L:Nat→Option Obj} {K:Nat→St} {gs:Array Goroutine} {w w':World} {t u:Trace} {D:List (ak ι)} {pend d0:Nat} {cl:yQ} {main:Goroutine} {sl:Option (Nat×Nat)}
 {i:Nat} {g g':Goroutine} {es:Array Event}
theorem Hv(h:g.offers=none)(r:Nat)(send:Bool):offersAt g r send=[]:=by
 unfold offersAt
 split
 ·rename_i h';rw[h] at h';cases h'
 ·rfl
theorem qH(h:g.status= .running∨g.status= .finished)(r:Nat)(send:Bool):offersAt g r send=[]:=
 offersAt_of_not_blocked (by rcases h with h|h<;>rw[h]<;>simp) r send
theorem Inv.offers(h:Inv E L K gs w t D pend cl main d0){x:Goroutine}(hj:gs[j+1]?=some x):
 (∃o p5 v zs,D[j]?=some (.gp o)∧x=parked p5 #[scase E.Ch v zs] .send)∨∀r send,offersAt x r send=[]:=by
 have cz:j <D.length:=by have:=lt_size hj;have:=h.base.size;omega
 have hD:D[j]?=some D[j]:=List.getElem?_eq_getElem cz
 obtain⟨y,hy,eZ⟩:=h.base.ok j _ hD
 obtain rfl:y=x:=by rw[hj] at hy;exact(Option.some.inj hy).symm
 by_cases hb:∃o,D[j]= .gp o
 ·obtain⟨o,e⟩:=hb
  rw[e] at eZ
  obtain⟨_,uC,p5,v,zs,X,Y,rfl,_⟩:=eZ
  exact .inl ⟨o,p5,v,zs,by rw[hD,e],rfl⟩
 ·right
  by_cases hc:D[j]= .closer
  ·have iF:=h.sy.Dw
   match cl,iF with
   |none,iF=>
    have:=iF D[j] (List.mem_of_getElem? hD)
    rw[hc] at this
    exact this.elim
   |some (ic,c,n),⟨_,h2,_,⟨gc,D7,pf⟩,_⟩=>
    have e:=h2 j (by rw[hD,hc])
    subst e
    obtain rfl:gc=y:=by rw[hj] at D7;exact(Option.some.inj D7).symm
    intro r send
    by_cases adS:c= .blk
    ·subst adS
     obtain⟨_,uC,amo,e⟩:=pf
     exact Hv (by rw[e];exact amo.2.1) r send
    ·exact qH (.inl (CK.tV pf adS)) r send
  ·exact qH (eZ.running (fun o e=>hb ⟨o,e⟩) hc)
theorem Inv.Ww(h:Inv E L K gs w t D pend cl main d0)(hm:main.status= .running){o:ι}(hi:D[i]?=some (.work o .leaf)) (hg:gs[i+1]?=some g):
 ql E L K D pend cl main d0 (crowd gs w sl) sl t (i+1):=by
 obtain⟨eV,cU,eZ⟩:=h.base.ok i _ hi
 obtain rfl:eV=g:=by rw[hg] at cU;exact(Option.some.inj cU).symm
 obtain⟨hd,hs,p5,v,zs,X,Y,hXY,nT,bL,xA⟩:=eZ
 obtain⟨sn,rc,tm,hc⟩:=h.sy.chan
 have IY:partners (gs.setIfInBounds (i+1) ph) E.Ch false=[]:=partners_nil fun j x hx=>by
  rcases getElem?_stand gs _ _ _ hx with ⟨_,rfl⟩| ⟨_,kJ⟩
  ·exact offersAt_ph _ _
  ·cases j with
   |zero=>
    have:x=main:=by rw[h.main] at kJ;exact(Option.some.inj kJ).symm
    subst this
    exact qH (.inl hm) _ _
   |succ j=>
    rcases h.offers kJ with ⟨o',g',v',zs',_,rfl⟩|hn
    ·exact offersAt_parked_send' _ _ _ _ _ _
    ·exact hn _ _
 have bN:=crowd_waits (sl:=sl) hg (by simpa using bL w (h.base.fit.ju _)) (fun cc uj=>by
  simp only[List.mem_toArray,List.mem_singleton] at uj
  subst uj
  exact ways_send_none hc (Nat.le_refl 0) IY)
 have e0:MemOp.ofEvents (i+1) eV.frame.fn eV.frame.place #[]= #[]:=rfl
 rw[e0] at bN
 have ew:gs.map (woken E.P eV (parked p5 #[scase E.Ch v zs] .send) w)=gs:=by
  have:woken E.P eV (parked p5 #[scase E.Ch v zs] .send) w=id:=by funext x;simp[Go.Conc.woken,parked]
  rw[this,Array.map_id]
 refine h.go' (.inl hm) (r':= .gp o) (s':=K (i+1)) (w':=w) (g':=parked p5 #[scase E.Ch v zs] .send) (u:= #[]) hi (by simp) (by simp) hg (by simp) (by rw[ew];exact bN) ⟨rfl,rfl⟩ (h.sy.kW _) (h.sy.kC _) rfl ?_ ?_ (by simp) (by simp)
  (fun _=>rfl) (fun e=>e) (fun _ e=>e) (fun e=>(by cases e)) (Nat.le_refl _) rfl (fL (by simp[ak.mu])) (fun cl' hw _=>h.qd (r':= .gp o) hi rfl rfl rfl rfl rfl cl' hw) fun _=>hm
 ·rw[lA,Array.append_empty];exact h.base.fit
 ·rw[Array.append_empty];exact⟨hd,p5,p5,v,zs,X,Y,rfl,hXY,nT,rfl,xA⟩
theorem Inv.norm(h:Inv E L K gs w t D pend cl main d0)(hi:D[i]?=some (.back .leaf)):
 ∃n,Inv E L (fD K (i+1) ⟨fun _=>none,[]⟩) gs w t (D.set i (.st .r0 n)) pend cl main d0∧j5 (D.set i (.st .r0 n))=j5 D∧One tW (D.set i (.st .r0 n)) D:=by
 obtain⟨g,hg,hd,n,hp⟩:=h.base.ok i _ hi
 have cz:=(List.getElem?_eq_some_iff.1 hi).1
 have oA:∀ {k x},(D.set i (ak.st .r0 n))[k]?=some x→(k=i∧x= .st .r0 n)∨(k≠i∧D[k]?=some x):=fun {k x} hk=>by
  by_cases e:k=i
  ·subst e
   exact .inl ⟨rfl,by simpa [List.getElem?_set,cz] using hk.symm⟩
  ·rw[List.getElem?_set_ne (Ne.symm e)] at hk;exact .inr ⟨e,hk⟩
 have hle:∀j,(fD K (i+1) ⟨fun _=>none,[]⟩ j).le (K j):=fun j=>by
  by_cases e:j=i+1
  ·subst e;rw[aB];exact⟨(K (i+1)).rw,by simp,fun b o hb=>(by cases hb)⟩
  ·rw[aD _ _ e];exact St.le_refl _
 have ir:cl≠none:=fun e=>by
  have:=h.sy.Dw
  subst e
  exact this _ (List.mem_of_getElem? hi)
 refine⟨n,⟨⟨h.base.fit.le hle,by simp[h.base.size],fun k r hk=>?_,fun k hk b hb=>h.base.far k hk b ((hle k).knows hb),h.base.ops,h.base.same⟩,
  ⟨fun j hj=>h.sy.kW j ((hle j).knows hj),fun j hj=>h.sy.kC j ((hle j).knows hj),h.sy.lW,h.sy.lC,h.sy.ne,h.sy.norel,fun j hj=>h.sy.plain j ?_,h.sy.said,?_,?_,h.sy.chan,h.sy.bal,?_⟩,h.main,h.deaf⟩,E4 (r:= .back .leaf) (r':= .st .r0 n) rfl hi,One.set hi (fL (by simp[ak.mu,WK.JQ]))⟩
 ·rcases oA hk with ⟨rfl,rfl⟩| ⟨dP,jh⟩
  ·exact⟨g,hg,by rw[aB],hd,hp,fun e=>(by cases e)⟩
  ·rw[aD _ _ (by omega)];exact h.base.ok k r jh
 ·rcases hj with hj| ⟨k,r,rfl,hk,hl⟩
  ·exact .inl hj
  ·rcases oA hk with ⟨rfl,rfl⟩| ⟨_,jh⟩
   ·exact .inr ⟨_,_,rfl,hi,rfl⟩
   ·exact .inr ⟨k,r,rfl,jh,hl⟩
 ·obtain⟨st,sm,ha,mC⟩:=h.sy.cells
  exact⟨st,sm,ha,JA hi rfl rfl rfl rfl mC⟩
 ·have:=iZ ak.cnt (y:=ak.st .r0 n) hi
  have e:(ak.st (ι:=ι) .r0 n).cnt=(ak.back (ι:=ι) .leaf).cnt:=rfl
  have:=h.sy.Bm
  omega
 ·have iF:=h.sy.Dw
  match cl,iF,ir with
  |some (ic,c,m),⟨h1,h2,h3,⟨gc,D7,pf⟩,h5⟩,_=>
   have dP:ic≠i:=fun e=>by subst e;rw[hi] at h1;cases h1
   refine⟨by rw[List.getElem?_set_ne (Ne.symm dP)];exact h1,fun k hk=>?_,h3,⟨gc,D7,by rw[aD _ _ (by omega)];exact pf⟩,fun hr=>?_⟩
   ·rcases oA hk with ⟨_,e⟩| ⟨_,jh⟩
    ·cases e
    ·exact h2 k jh
   ·have:=(h5 hr).step (u:= #[]) (r':= .st .r0 n) hi (by simp) (fun e=>(by cases e)) (fun e=>(by cases e))
    rwa[Array.append_empty] at this
end
section
variable {ι:Type} {E:dK ι} {L:Nat→Option Obj} {K:Nat→St} {gs kK:Array Goroutine} {w w':World} {t u:Trace} {D:List (ak ι)} {pend d0:Nat} {cl:yQ} {main main':Goroutine} {sl:Option (Nat×Nat)}
 {i:Nat} {g g':Goroutine} {es:Array Event}
theorem fO(t:Trace)(g:Nat)(u:Trace)(hu:∀op∈u,∀m,op.act≠ .mark m):Deaf (t++u) g=Deaf t g:=by
 obtain⟨l⟩:=u
 rw[Deaf_append]
 induction l generalizing t with
 |nil=>rfl
 |cons y l ih=>
  have hy:=hu y (by simp)
  have e1:deafStep g (Deaf t g) y=Deaf t g:=by
   unfold deafStep
   split
   ·rename_i e;exact absurd e (hy _)
   ·rename_i e;exact absurd e (hy _)
   ·rfl
  rw[List.foldl_cons,e1]
  exact ih t (fun op ax=>hu op (by simp at ax ⊢;exact .inr ax))
theorem Be{o:ι}{r':ak ι}(ho:r'.Us=none):∀ {D:List (ak ι)} {i:Nat} {r:ak ι},D[i]?=some r→r.Us=some o→∃a b,j5 D=a++o::b∧j5 (D.set i r')=a++b
 | [],i,r,h,_=>by simp at h
 |x::D,0,r,h,hr=>by
  simp only[List.getElem?_cons_zero,Option.some.injEq] at h;subst h
  exact⟨[],j5 D,by simp[j5,hr],by simp[j5,ho]⟩
 |x::D,i+1,r,h,hr=>by
  obtain⟨a,b,h1,h2⟩:=Be ho (D:=D) (i:=i) (by simpa using h) hr
  cases hx:x.Us with
  |none=>exact⟨a,b,by simp only[j5,List.filterMap_cons,hx] at h1 ⊢;exact h1,by simp only[j5,List.set_cons_succ,List.filterMap_cons,hx] at h2 ⊢;exact h2⟩
  |some y=>exact⟨y::a,b,by simp only[j5,List.filterMap_cons,hx] at h1 ⊢;rw[h1];rfl,by simp only[j5,List.set_cons_succ,List.filterMap_cons,hx] at h2 ⊢;rw[h2];rfl⟩
theorem Inv.meet(h:Inv E L K gs w t D pend cl main 0)(ir:cl≠none){r:ak ι}{o:ι}{X Y:List (Nat×Obj)}{tr:Tree}{gP:St}{gw:Goroutine}(hi:D[i]?=some r) (hr:r= .work o .leaf∨r= .gp o)
 (hd:Deaf t (i+1)=0) (hXY:(K (i+1)).rw.Perm (X++Y)) (hle:gP.le ⟨(K (i+1)).ro,Y⟩) (hb:n8 E.P false E.G2 tr gw gP)
 (uz:kK.size=gs.size) (h0:kK[0]?=some main') (hw1:kK[i+1]?=some gw) (hgs:∀k,k≠0→k≠i+1→kK[k]?=gs[k]?)
 {sn rc:Nat} {tm:Bool} (hc:w.heap[E.Ch]?=some (.chan 0 #[] false sn rc tm)) (sA:w'.heap[E.Ch]?=some (.chan 0 #[] false (sn+1) (rc+1) tm)) (rq:w'.heap.size=w.heap.size) (hwb:∀b,b≠E.Ch→w'.heap[b]?=w.heap[b]?) (Oa:Tp w w')
 {a0 a1 a2 a3:MemOp} (e0:a0.g=i+1∧a0.act= .send E.Ch sn) (e1:a1.g=0∧a1.act= .recv E.Ch rc 0) (e2:a2.g=i+1∧a2.act= .sendDone E.Ch sn) (e3:a3.g=0∧a3.act= .recvDone E.Ch rc):
 Inv E L (fD (fD K (i+1) gP) 0 ⟨(K 0).ro,X++(K 0).rw⟩) kK w' (t++ #[a0,a1,a2,a3]) (D.set i (.back tr)) pend cl main' 0:=by
 have cz:=(List.getElem?_eq_some_iff.1 hi).1
 have ar4:=h.sy.bal _ _ _ hc
 subst ar4
 have oA:∀ {k x},(D.set i (ak.back tr))[k]?=some x→(k=i∧x= .back tr)∨(k≠i∧D[k]?=some x):=fun {k x} hk=>by
  by_cases e:k=i
  ·subst e
   exact .inl ⟨rfl,by simpa [List.getElem?_set,cz] using hk.symm⟩
  ·rw[List.getElem?_set_ne (Ne.symm e)] at hk;exact .inr ⟨e,hk⟩
 have hu:∀op∈ #[a0,a1,a2,a3],op.g=i+1∨op.g=0:=by intro op ax;simp at ax;rcases ax with rfl|rfl|rfl|rfl<;>simp[e0.1,e1.1,e2.1,e3.1]
 have hq:∀op∈ #[a0,a1,a2,a3],op.act.touch?=none:=by intro op ax;simp at ax;rcases ax with rfl|rfl|rfl|rfl<;>simp[e0.2,e1.2,e2.2,e3.2,MemAct.touch?]
 have Ot:∀op∈ #[a0,a1,a2,a3],∀m,op.act≠ .mark m:=by intro op ax;simp at ax;rcases ax with rfl|rfl|rfl|rfl<;>simp[e0.2,e1.2,e2.2,e3.2]
 have yq:∀k,Deaf (t++ #[a0,a1,a2,a3]) k=Deaf t k:=fun k=>fO t k _ Ot
 have p0:(t++ #[a0,a1,a2,a3])[t.size]?=some a0:=by simp
 have p3:(t++ #[a0,a1,a2,a3])[t.size+3]?=some a3:=by simp
 have hear:∀k (hk:k≤3) (op:MemOp),(t++ #[a0,a1,a2,a3])[t.size+k]?=some op→op.g=i+1∨op.g=0→Deaf t (i+1)=0→Deaf t 0=0→(t++ #[a0,a1,a2,a3]).heard (t.size+k):=by
  intro k hk op ho hg h1 h2
  refine⟨op.g,by simp only[Trace.g?,ho,Option.map_some],?_⟩
  have key:∀k,k≤3→∀q,Deaf t q=0→(t++ #[a0,a1,a2,a3]).deaf q (t.size+k)=0:=by
   intro k
   induction k with
   |zero=>intro _ q hq;rw[Nat.add_zero,deaf_old (Nat.le_refl _)];exact hq
   |succ k ih=>
    intro hk q G5
    have cz:t.size+k <(t++ #[a0,a1,a2,a3]).size:=by simp;omega
    have hm:(t++ #[a0,a1,a2,a3])[t.size+k]?=some (t++ #[a0,a1,a2,a3])[t.size+k]:=Array.getElem?_eq_getElem cz
    have yN:(t++ #[a0,a1,a2,a3])[t.size+k]∈ #[a0,a1,a2,a3]:=by
     rcases getElem?_append_cases hm with ⟨h',_⟩| ⟨_,h'⟩
     ·omega
     ·exact h'
    rw[show t.size+(k+1)=t.size+k+1 by omega,deaf_succ hm,ih (by omega) q G5]
    have hn:=Ot _ yN
    unfold deafStep
    split
    ·rename_i e;exact absurd e (hn _)
    ·rename_i e;exact absurd e (hn _)
    ·rfl
  rcases hg with hg|hg<;>rw[hg]
  ·exact key k hk _ h1
  ·exact key k hk _ h2
 have Yd:HappensBefore (t++ #[a0,a1,a2,a3]) t.size (t.size+3):=
  .single (.inr ⟨.handOver (c:=E.Ch) (k:=sn) (by rw[act?_of p0,e0.2]) (by rw[act?_of p3,e3.2]),hear 0 (by omega) a0 p0 (.inl e0.1) hd h.deaf,hear 3 (by omega) a3 p3 (.inr e3.1) hd h.deaf⟩)
 have aRQ:Fit L K w' (t++ #[a0,a1,a2,a3]):=h.base.fit.quiet E.Ch h.sy.kC h.sy.lC (Nat.le_of_eq rq.symm) (fun b hb _=>hwb b hb) hq
 have j8:∀b o,(b,o)∈X→(K (i+1)).iC b:=fun b o hm=>⟨o,hXY.mem_iff.2 (by simp[hm])⟩
 have aRP:=aRQ.hand (i:=0) (j:=i+1) (by omega) X Y hXY fun b o hm p x hx YR=>by
  rcases bw hx with ⟨hp,kJ⟩| ⟨_,op,P2,_,xy⟩
  ·have k1:=h.base.fit.perm (i+1) b (j8 b o hm) p x kJ YR
   exact⟨t.size+3,a3,p3,e3.1,.inr ((k1.hb_new (Nat.le_refl _) p0 e0.1).trans Yd)⟩
  ·rw[hq op P2] at xy;cases xy
 have aRO:Fit L (fD (fD K (i+1) gP) 0 ⟨(K 0).ro,X++(K 0).rw⟩) w' (t++ #[a0,a1,a2,a3]):=aRP.le fun j=>by
  by_cases e:j=0
  ·subst e;rw[aB,aB];exact St.le_refl _
  ·rw[aD _ _ e,aD _ _ e]
   by_cases e':j=i+1
   ·subst e';rw[aB,aB];exact hle
   ·rw[aD _ _ e',aD _ _ e'];exact St.le_refl _
 have Ha:∀b,(∀j,¬(K j).knows b)→∀j,¬(fD (fD K (i+1) gP) 0 ⟨(K 0).ro,X++(K 0).rw⟩ j).knows b:=fun b hb j hk=>by
  by_cases e:j=0
  ·subst e;rw[aB] at hk
   rcases hk with hk| ⟨o,ho⟩
   ·exact hb 0 (.inl hk)
   ·rcases List.mem_append.1 ho with h'|h'
    ·exact hb (i+1) (.inr (j8 b o h'))
    ·exact hb 0 (.inr ⟨o,h'⟩)
  ·rw[aD _ _ e] at hk
   by_cases e':j=i+1
   ·subst e';rw[aB] at hk
    rcases hle.knows hk with hk| ⟨o,ho⟩
    ·exact hb (i+1) (.inl hk)
    ·exact hb (i+1) (.inr ⟨o,hXY.mem_iff.2 (by simp[ho])⟩)
   ·rw[aD _ _ e'] at hk;exact hb j hk
 have HJ:r.cnt=1∧r.c4=0∧r.c3=0∧r.c2=0:=by rcases hr with rfl|rfl<;>exact⟨rfl,rfl,rfl,rfl⟩
 refine⟨⟨aRO,by rw[uz];simp[h.base.size],fun k x hk=>?_,fun k hk b hb=>?_,fun op ax=>?_,⟨Oa.1.trans h.base.same.1,Oa.2.trans h.base.same.2⟩⟩,
  ⟨Ha _ h.sy.kW,Ha _ h.sy.kC,h.sy.lW,h.sy.lC,h.sy.ne,fun a=>(h.sy.norel a).app fun op ax=>Ot op ax _,fun j hj p x hx YR hk=>?_,?_,?_,?_,⟨_,_,_,sA⟩,fun a b c hx=>?_,?_⟩,h0,by rw[yq];exact h.deaf⟩
 ·rcases oA hk with ⟨rfl,rfl⟩| ⟨dP,jh⟩
  ·exact⟨gw,hw1,by rw[yq];exact hd,by rw[aD _ _ (by omega),aB];exact hb⟩
  ·obtain⟨y,hy,eZ⟩:=h.base.ok k x jh
   refine⟨y,by rw[hgs (k+1) (by omega) (by omega)];exact hy,?_⟩
   rw[aD _ _ (by omega),aD _ _ (by omega)]
   exact eZ.other fun op ax=>by rcases hu op ax with e|e<;>rw[e]<;>omega
 ·rw[uz] at hk
  have:=h.base.size
  rw[aD _ _ (by omega),aD _ _ (by omega)] at hb
  exact h.base.far k hk b hb
 ·rw[uz]
  rcases Array.mem_append.1 ax with h'|h'
  ·exact h.base.ops op h'
  ·rcases hu op h' with e|e<;>rw[e,h.base.size]<;>omega
 ·rcases bw hx with ⟨_,kJ⟩| ⟨_,op,P2,_,xy⟩
  ·refine(h.sy.plain j ?_ p x kJ YR hk).app _
   rcases hj with hj| ⟨k,y,rfl,jh,hl⟩
   ·exact .inl hj
   ·rcases oA jh with ⟨rfl,rfl⟩| ⟨_,aru⟩
    ·exact .inr ⟨_,r,rfl,hi,by rcases hr with rfl|rfl<;>rfl⟩
    ·exact .inr ⟨k,y,rfl,aru,hl⟩
  ·rw[hq op P2] at xy;cases xy
 ·have hs:=h.sy.said
  match cl,hs,ir with
  |some (ic,c,n),hs,_=>
   intro he p x hx YR hk
   rcases bw hx with ⟨_,kJ⟩| ⟨_,op,P2,_,xy⟩
   ·exact(hs he p x kJ YR hk).app _
   ·rw[hq op P2] at xy;cases xy
 ·obtain⟨st,sm,ha,mC⟩:=h.sy.cells
  refine⟨st,sm,by unfold WgAt;rw[hwb _ h.sy.ne];exact ha,JA hi ?_ ?_ ?_ ?_ mC⟩
  ·rw[HJ.1];rfl
  ·rw[HJ.2.1];rfl
  ·rw[HJ.2.2.1];rfl
  ·rw[HJ.2.2.2];rfl
 ·have:=iZ ak.cnt (y:=ak.back tr) hi
  have e:(ak.back (ι:=ι) tr).cnt=1:=rfl
  have:=h.sy.Bm
  omega
 ·rw[sA] at hx
  simp only[Option.some.injEq,Obj.chan.injEq] at hx
  omega
 ·have iF:=h.sy.Dw
  obtain⟨st,sm,ha,mC⟩:=h.sy.cells
  have ay1:1≤e8 ak.cnt D:=by have:=tG ak.cnt hi;rw[HJ.1] at this;exact this
  match cl,iF,ir,mC with
  |some (ic,c,m),⟨h1,h2,h3,⟨gc,D7,pf⟩,h5⟩,_,mC=>
   have dP:ic≠i:=fun e=>by subst e;rw[hi] at h1;rcases hr with rfl|rfl<;>cases h1
   refine⟨by rw[List.getElem?_set_ne (Ne.symm dP)];exact h1,fun k hk=>?_,by rw[yq];exact h3,⟨gc,by rw[hgs _ (by omega) (by omega)];exact D7,by rw[aD _ _ (by omega),aD _ _ (by omega)];exact pf⟩,fun⟨tr',e⟩=>?_⟩
   ·rcases oA hk with ⟨_,e⟩| ⟨_,jh⟩
    ·cases e
    ·exact h2 k jh
   ·subst e
    have:=(mC.run rfl trivial).1
    omega
end
def Ends(P:Program)(Q:Machine→Outcome→World→Trace→Prop)(m:Machine)(t:Trace):Prop:=
 ∃n last o w' t',runNT P (n+1) m t=(.ended o w',t')∧runN P n m= .next last∧step P last= .ended o w'∧Q last o w' t'
theorem Ends.next{P:Program}{m m':Machine}{t:Trace}{ops:Array MemOp}(hs:stepT P m=(.next m',ops))(h:Ends P Q m' (t++ops)):Ends P Q m t:=by
 obtain⟨n,last,o,w,t',h1,h2,h3,h4⟩:=h
 exact⟨n+1,last,o,w,t',by rw[runNT_succ_next hs];exact h1,by rw[runN_succ_next hs];exact h2,h3,h4⟩
section
variable {L:Nat→Option Obj} {K:Nat→St} {w:World} {t:Trace}
theorem aP.at(h:aP s w)(d:Nat):aP s (w.at d):=⟨h.ro,h.rw,h.nodup,h.apart⟩
theorem Fit.at(h:Fit L K w t)(d:Nat):Fit L K (w.at d) t:=⟨h.C8,h.kU,fun i=>(h.ju i).at d,h.sep,h.perm,h.qF,h.old,h.clean,h.sync⟩
end
section
variable {ι:Type} {E:dK ι} {L:Nat→Option Obj} {K:Nat→St} {gs:Array Goroutine} {w:World} {t:Trace} {D:List (ak ι)} {pend d0:Nat} {cl:yQ} {main:Goroutine}
theorem Inv.at(h:Inv E L K gs w t D pend cl main d0)(d:Nat):Inv E L K gs (w.at d) t D pend cl main d0:=
 ⟨⟨h.base.fit.at d,h.base.size,h.base.ok,h.base.far,h.base.ops,h.base.same⟩,
  ⟨h.sy.kW,h.sy.kC,h.sy.lW,h.sy.lC,h.sy.ne,h.sy.norel,h.sy.plain,h.sy.said,h.sy.cells,h.sy.Bm,h.sy.chan,h.sy.bal,h.sy.Dw⟩,h.main,h.deaf⟩
end
structure Lv(P:Program)(G:Trace→Nat→Prop)(L:Nat→Option Obj)(K:Nat→St)(gs:Array Goroutine)(w:World)(t:Trace)(q:List Nat):Prop where
 fit:Fit L K w t
 size:gs.size=q.length+1
 ok:∀i n,q[i]?=some n→∃g d,gs[i+1]?=some g∧QuitsD P n d g∧Deaf t (i+1)=d∧G t (i+1)
 none:∀i b,i≠0→¬(K i).knows b
 ops:∀op∈t,op.g <gs.size
structure Jr(G:Trace→Nat→Prop):Prop where
 other:∀t u i,G t i→(∀op∈u,op.g≠i)→G (t++u) i
 quiet:∀t u i,G t i→(∀op∈u,op.act.touch?=none)→G (t++u) i
theorem Cv:Jr eg:=⟨fun _ _ _ h hu=>h.other hu,fun _ _ _ h hu=>h.quiet hu⟩
def iJ(pc:Nat)(t:Trace)(i:Nat):Prop:=pc <t.size∧(eg t i∨∀p,t.g? p=some i→t.counts p→HappensBefore t p pc)
theorem iJ.grow{pc:Nat}{t u:Trace}{i:Nat}(h:iJ pc t i)(hu:∀p op,t.size≤p→(t++u)[p]?=some op→op.g=i→¬(t++u).counts p) (hk:eg t i→eg (t++u) i):iJ pc (t++u) i:=by
 refine⟨by rw[Array.size_append];have:=h.1;omega,h.2.imp hk fun h' p hp hc=>?_⟩
 obtain⟨op,ho,hg⟩:=Option.map_eq_some_iff.1 hp
 rcases Nat.lt_or_ge p t.size with cz|OB
 ·exact hb_app u (h' p (by rw[←g?_old (u:=u) cz];exact hp) ((counts_old cz).1 hc))
 ·exact absurd hc (hu p op OB ho hg)
theorem OW(pc:Nat):Jr (iJ pc):=
 ⟨fun t u i h hu=>h.grow (fun p op hp ho hg=>by
  rcases getElem?_append_cases ho with ⟨h',_⟩| ⟨_,hm⟩
  ·omega
  ·exact absurd hg (hu op hm)) fun h'=>h'.other hu,
  fun t u i h hu=>h.grow (fun p op hp ho hg hc=>by
   obtain⟨x,hx,_⟩:=hc
   obtain⟨o',DZ,kJ⟩:=touch_of hx
   rw[ho] at DZ;cases DZ
   rcases getElem?_append_cases ho with ⟨h',_⟩| ⟨_,hm⟩
   ·omega
   ·rw[hu op hm] at kJ;cases kJ) fun h'=>h'.quiet hu⟩
section
variable {P:Program} {G:Trace→Nat→Prop} {L:Nat→Option Obj} {K:Nat→St} {gs:Array Goroutine} {w:World} {t:Trace} {q:List Nat} {sl:Option (Nat×Nat)}
theorem Lv.at(h:Lv P G L K gs w t q)(d:Nat):Lv P G L K gs (w.at d) t q:=⟨h.fit.at d,h.size,h.ok,h.none,h.ops⟩
theorem Lv.le(h:Lv P G L K gs w t q)(hl:s.le (K 0)):Lv P G L (fD K 0 s) gs w t q:=
 ⟨h.fit.le fun j=>by
  by_cases e:j=0
  ·subst e;rw[aB];exact hl
  ·rw[aD _ _ e];exact St.le_refl _,h.size,h.ok,fun i b hi hk=>by rw[aD _ _ hi] at hk;exact h.none i b hi hk,h.ops⟩
theorem Lv.leave(hG:Jr G)(h:Lv P G L K gs w t q){i:Nat}{m:Goroutine}(hm:gs[0]?=some m) (yL:m.status= .running) (hg:gs[i+1]?=some g) (hs:g.status= .running):
 ∃kK u q',runT P (crowd gs w sl) (i+1)=(.next (crowd kK w sl),u)∧Lv P G L K kK w (t++u) q'∧kK[0]?=some m∧Deaf (t++u) 0=Deaf t 0∧q'.sum <q.sum∧∀op∈u,∀a,op.act≠ .mark (.release a):=by
 have cz:i <q.length:=by have:=lt_size hg;have:=h.size;omega
 have hq:=List.getElem?_eq_getElem cz
 obtain⟨eV,d,cU,hqd,hd,hk⟩:=h.ok i _ hq
 obtain rfl:eV=g:=by rw[hg] at cU;exact(Option.some.inj cU).symm
 cases e:q[i] with
 |zero=>rw[e] at hqd;have:=hqd.1;rw[hs] at this;cases this
 |succ n=>
  rw[e] at hqd
  rcases hqd with ⟨h1,_⟩| ⟨_,g',es,P1,bL,G5⟩
  ·rw[hs] at h1;cases h1
  ·have hu:=IE (i:=i+1) (fn:=eV.frame.fn) (pos:=eV.frame.place) P1
   have hgi:∀op∈MemOp.ofEvents (i+1) eV.frame.fn eV.frame.place es,op.g=i+1:=fun op ax=>Go.ConcR.g_of_ofEvents op ax
   have Df:∀x:Goroutine,(x.status= .running∨x.status= .finished)→woken P eV g' w x=x:=fun x hx=>by
    unfold Go.Conc.woken
    split
    ·exact again_running _ hx
    ·rfl
   refine⟨_,_,q.set i n,runT_crowd_go (P:=P) (sl:=sl) (i:=i+1) hg (by simpa using bL w),⟨?_,by simp[h.size],fun k n' jh=>?_,h.none,fun op ax=>?_⟩,?_,?_,?_,fun op ax a=>NP P1 a op ax⟩
   ·exact h.fit.quiet w.heap.size (fun j hj=>absurd (h.fit.Fv hj) (Nat.lt_irrefl _)) (by
     cases hL:L w.heap.size with
     |none=>rfl
     |some o=>exact absurd (lt_size (h.fit.C8 _ o hL)) (Nat.lt_irrefl _)) (Nat.le_refl _) (fun _ _ _=>rfl) hu
   ·by_cases hki:k=i
    ·subst hki
     have:n=n':=by simpa [List.getElem?_set,cz] using jh
     subst this
     exact⟨g',_,by simp[h.size,cz],G5,by rw[Deaf_own,hd],hG.quiet _ _ _ hk hu⟩
    ·rw[List.getElem?_set_ne (Ne.symm hki)] at jh
     obtain⟨x,dx,hx,hqx,hdx,AP⟩:=h.ok k n' jh
     have dP:∀op∈MemOp.ofEvents (i+1) eV.frame.fn eV.frame.place es,op.g≠k+1:=fun op ax=>by rw[hgi op ax];omega
     exact⟨x,dx,by rw[fQ (by omega) hx,Df x hqx.status],hqx,by rw[gG _ _ dP];exact hdx,hG.other _ _ _ AP dP⟩
   ·rw[Array.size_setIfInBounds,Array.size_map]
    rcases Array.mem_append.1 ax with h'|h'
    ·exact h.ops op h'
    ·rw[hgi op h',h.size];omega
   ·rw[fQ (by omega) hm,Df m (.inl yL)]
   ·exact gG _ _ fun op ax=>by rw[hgi op ax];omega
   ·have key:∀(l:List Nat) (i:Nat) (x:Nat),l[i]?=some x→∀y,y <x→(l.set i y).sum <l.sum:=by
     intro l
     induction l with
     |nil=>intro i x h;simp at h
     |cons a l ih=>
      intro i x hx y hy
      cases i with
      |zero=>simp only[List.getElem?_cons_zero,Option.some.injEq] at hx;subst hx;simp only[List.set_cons_zero,List.sum_cons];omega
      |succ i=>have:=ih i x (by simpa using hx) y hy;simp only[List.set_cons_succ,List.sum_cons];omega
    exact key q i _ (by rw[hq,e]) n (Nat.lt_succ_self n)
theorem Lv.own(hG:Jr G)(h:Lv P G L K gs w t q){g':Goroutine}{w':World}{es:Array Event}(hm:gs[0]?=some g) (bL:stepG P true g w= .go g' w' es) (ht:Trans (K 0) w s' w' es):
 ∃kK u,runT P (crowd gs w sl) 0=(.next (crowd kK w' sl),u)∧Lv P G L (fD K 0 s') kK w' (t++u) q∧kK[0]?=some g'∧Deaf (t++u) 0=Deaf t 0∧∀op∈u,∀a,op.act≠ .mark (.release a):=by
 have hgi:∀op∈MemOp.ofEvents 0 g.frame.fn g.frame.place es,op.g=0:=fun op ax=>Go.ConcR.g_of_ofEvents op ax
 refine⟨_,_,runT_crowd_go (P:=P) (sl:=sl) (i:=0) hm (by simpa using bL),⟨h.fit.own ht _ _,by simp[h.size],fun k n hk=>?_,fun i b hi hk=>?_,fun op ax=>?_⟩,?_,?_,fun op ax a e=>?_⟩
 ·obtain⟨x,dx,hx,hqx,hdx,AP⟩:=h.ok k n hk
  have dP:∀op∈MemOp.ofEvents 0 g.frame.fn g.frame.place es,op.g≠k+1:=fun op ax=>by rw[hgi op ax];omega
  exact⟨x,dx,by rw[fQ (by omega) hx,woken_quitsD hqx],hqx,by rw[gG _ _ dP];exact hdx,hG.other _ _ _ AP dP⟩
 ·rw[aD _ _ hi] at hk;exact h.none i b hi hk
 ·rw[Array.size_setIfInBounds,Array.size_map]
  rcases Array.mem_append.1 ax with h'|h'
  ·exact h.ops op h'
  ·rw[hgi op h',h.size];omega
 ·simp[h.size]
 ·rw[Deaf_own,ht.deaf]
 ·rw[ofEvents_eq] at ax
  obtain⟨e',he,rfl⟩:=Array.mem_map.1 ax
  have hl:=Go.ConcR.loc_of_ofEvent e
  have:=ht.uO e' he
  unfold G1 at this
  rw[hl] at this
  simp[Bg] at this
structure V8(I:(Nat→St)→World→Trace→Prop):Prop where
 grow:∀K w t u,I K w t→(∀op∈u,∀a,op.act≠ .mark (.release a))→I K w (t++u)
 drawn:∀K w t d,I K w t→I K (w.at d) t
 le:∀K w t s,I K w t→s.le (K 0)→I (fD K 0 s) w t
 own:∀K w t s' w' es u,I K w t→Trans (K 0) w s' w' es→(∀op∈u,∀a,op.act≠ .mark (.release a))→I (fD K 0 s') w' (t++u)
def Calm(os:Os)(out:Array (Nat×ByteArray)):(Nat→St)→World→Trace→Prop:=fun _ w t=>(∀a,NoRelease a t)∧w.os=os∧w.output=out
def TL(P:Program)(G:Trace→Nat→Prop)(L:Nat→Option Obj)(I:(Nat→St)→World→Trace→Prop)(Q:Machine→Outcome→World→Trace→Prop)(g:Goroutine)(s:St):Prop:=
 ∀K gs w t q sl,Lv P G L K gs w t q→gs[0]?=some g→s.le (K 0)→Deaf t 0=0→I K w t→Ends P Q (crowd gs w sl) t
theorem JB(hG:Jr G)(hI:V8 I)(hs:g.status= .running)
 (h:∀K gs w t q sl m,Lv P G L K gs w t q→gs[0]?=some g→K 0=s→Deaf t 0=0→I K w t→stepT P m=runT P (crowd gs w sl) 0→(m.gs=gs∧m.rest.timers= #[])→Ends P Q m t):TL P G L I Q g s:=by
 intro K gs w t q sl hL h0 hle hd hi
 generalize hn:q.sum=n
 induction n using Nat.strongRecOn generalizing K gs w t q sl with
 |_ n ih=>
  have hL:=hL.le hle
  have hi:=hI.le _ _ _ _ hi hle
  obtain⟨i,eV,d,PO,cU,FH,bL⟩:=crowd_pick (P:=P) (gs:=gs) (w:=w) (sl:=sl) (fun x hx=>by
   obtain⟨j,hj,rfl⟩:=Array.mem_iff_getElem.1 hx
   have hj':gs[j]?=some gs[j]:=Array.getElem?_eq_getElem hj
   intro k
   cases j with
   |zero=>rw[h0] at hj';rw[←Option.some.inj hj',hs];simp
   |succ j=>
    have cz:j <q.length:=by have:=hL.size;omega
    obtain⟨y,d,hy,hq,_⟩:=hL.ok j _ (List.getElem?_eq_getElem cz)
    rw[hj'] at hy
    rw[Option.some.inj hy]
    rcases hq.status with e|e<;>rw[e]<;>simp) ⟨0,g,h0,hs⟩
  cases i with
  |zero=>exact h _ gs (w.at d) t q PO _ (hL.at d) h0 (aB _ _ _) hd (hI.drawn _ _ _ _ hi) bL ⟨rfl,rfl⟩
  |succ i=>
   obtain⟨kK,u,q',hr,hL',P2,D8,cz,hrl⟩:=(hL.at d).leave (sl:=PO) hG h0 hs cU FH
   refine Ends.next (bL.trans hr) (ih q'.sum (hn▸cz) _ kK _ _ q' PO hL' P2 ?_ (by rw[D8];exact hd) (hI.grow _ _ _ _ (hI.drawn _ _ _ _ hi) hrl) rfl)
   rw[aB];exact St.le_refl _
theorem H2(hG:Jr G)(hI:V8 I)(Q:Machine→Outcome→World→Trace→Prop):Closed P true (TL P G L I Q) where
 step:=fun g s hs h=>JB hG hI hs fun K gs w t q sl m hL h0 hK hd hi bL _=>by
  subst hK
  obtain⟨g',w',es,s',hgo,_,ht,hT⟩:=h w (hL.fit.ju 0)
  obtain⟨kK,u,hr,hL',P2,D8,hrl⟩:=hL.own (sl:=sl) hG h0 hgo ht
  exact Ends.next (bL.trans hr) (hT _ kK w' _ q sl hL' P2 (by rw[aB];exact St.le_refl _) (by rw[D8];exact hd) (hI.own _ _ _ _ _ _ _ hi ht hrl))
 mono:=fun g s s' hl h K gs w t q sl hL h0 hle hd hi=>h K gs w t q sl hL h0 (hl.trans hle) hd hi
theorem TL.mono(hl:s.le s')(h:TL P G L I Q g s):TL P G L I Q g s':=
 fun K gs w t q sl hL h0 hle hd hi=>h K gs w t q sl hL h0 (hl.trans hle) hd hi
end
end Go.L
